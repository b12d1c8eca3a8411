import PyProof.Rows.All
import Wide.All
import OpenK.AllK
import Wide.FinOn
import HandS.ForMost
import HandS.ForExc
import HandS.Lambda
import HandS.Walk
import HandS.Wide
import HandS.IsInst
import HandS.More
import HandS.TupAny
import HandS.Style
import KE.SortData
import KE.DatumOrd
import PyProof.Claim2Refuses
import HandS.Defaults
import HandS.ExcCtx
import HandS.HotCalls
import HandS.ExcIs
import PyProof.SumWalkG
import HandS.HeadHook4
import HandS.Dict
import PyProof.Rows.SortStr
import HandS.HeadHook1
import HandS.Iter
import HandS.Deep
import KE.GoesEnum
import KE.GoesMore
import KE.DatumMoreOrd
import HandS.Head0
import HandS.Head1
import HandS.Head2
import HandS.HeadEnd
import HandS.HeadWalk
import PySem.Challenge.RW_nearmarks_k51_whole_trees
set_option Elab.async false
set_option linter.all false
set_option maxRecDepth 100000
set_option maxHeartbeats 2000000
/-! The data layer: what a value stands for (D, Rp), frozen knowledge F and the heap H, the evaluation of readings upon data (Ev). -/
namespace NM
open PySem PySem.Spec PyProof.Rows L2
/-- the tables of code objects that are watched -/
class Tbs where
  T : List (Addr × Str)
variable [Tbs]

/-- plain data -/
inductive D where
  | non | bl (b : Bool) | int (i : Int) | str (s : Str)
  | tup (ds : List D) | lst (ds : List D) | dct (kvs : List (Str × D))

/-- no table of code objects -/
def NT (u : HO) : Prop := ∀ ps, u ≠ .tbl ps
/-- .. nor an object of another kind that is watched -/
def NX (u : HO) : Prop := NT u ∧ ∀ φ, u ≠ .ext φ
theorem nx_lst {xs : List V} : NX (.lst xs) := ⟨fun _ z => (by cases z), fun _ z => (by cases z)⟩
theorem nx_dK {xs : List (Key × V)} : NX (.dK xs) := ⟨fun _ z => (by cases z), fun _ z => (by cases z)⟩
theorem nt_lst {xs : List V} : NT (.lst xs) := fun _ z => by cases z
theorem nt_tup {xs : List V} : NT (.tup xs) := fun _ z => by cases z
theorem nt_dK {xs : List (Key × V)} : NT (.dK xs) := fun _ z => by cases z
theorem nt_frz {o : Obj} {u : HO} : NT (.frz o u) := fun _ z => by cases z
/-- an object, without the lock of a dict -/
def lk : HO → HO
  | .frz _ (.dK kvs) => .dK kvs
  | u => u
theorem lk_nt {u u' : HO} (n : NT u) (e : lk u' = lk u) : NT u' := fun ps z => by
  rw [z] at e
  have e : HO.tbl ps = lk u := e
  cases u with
  | frz o w => cases w <;> first | (cases e; done) | exact absurd e (fun z => by cases z)
  | tbl qs => exact n qs rfl
  | _ => cases e
/-- all that F knows stands in H (a dict may be locked or unlocked there); tables of code objects don't count -/
def Kn (F H : Hp) : Prop := ∀ a u, NT u → F a = some u → ∃ u', H a = some u' ∧ lk u' = lk u
theorem Kn.refl (H : Hp) : Kn H H := fun _ u _ h => ⟨u, h, rfl⟩
theorem Kn.of {F H : Hp} (h : ∀ a u, NT u → F a = some u → H a = some u) : Kn F H := fun a u n e => ⟨u, h a u n e, rfl⟩
theorem Kn.trans {F G H : Hp} (h : Kn F G) (k : Kn G H) : Kn F H := fun a u n e => by
  obtain ⟨u', e1, e2⟩ := h a u n e
  obtain ⟨u2, e3, e4⟩ := k a u' (lk_nt n e2) e1
  exact ⟨u2, e3, e4.trans e2⟩
theorem lk_lst {u : HO} {xs : List V} (e : lk u = .lst xs) : u = .lst xs := by
  cases u with
  | frz o w => cases w <;> cases e
  | lst ys => exact e
  | _ => cases e
theorem lk_tup {u : HO} {xs : List V} (e : lk u = .tup xs) : u = .tup xs := by
  cases u with
  | frz o w => cases w <;> cases e
  | tup ys => exact e
  | _ => cases e
theorem lk_dK {u : HO} {kvs : List (Key × V)} (e : lk u = .dK kvs) : u = .dK kvs ∨ ∃ o, u = .frz o (.dK kvs) := by
  cases u with
  | frz o w =>
    cases w with
    | dK ws => cases e; exact .inr ⟨o, rfl⟩
    | _ => cases e
  | dK ws => exact .inl e
  | _ => cases e
theorem lk_frzL {u : HO} {o : Obj} {xs : List V} (e : lk u = .frz o (.lst xs)) : u = .frz o (.lst xs) := by
  cases u with
  | frz o' w => cases w <;> first | exact e | cases e
  | _ => cases e
theorem lk_frzT {u : HO} {o : Obj} {xs : List V} (e : lk u = .frz o (.tup xs)) : u = .frz o (.tup xs) := by
  cases u with
  | frz o' w => cases w <;> first | exact e | cases e
  | _ => cases e
theorem Kn.rd {F H : Hp} {a : Addr} {kvs : List (Key × V)} (h : Kn F H) (r : Rd F a (.dK kvs)) : Rd H a (.dK kvs) := by
  have key : ∃ u', H a = some u' ∧ lk u' = .dK kvs := by
    rcases r with r | ⟨o, r⟩
    · exact h a _ nt_dK r
    · exact h a _ nt_frz r
  obtain ⟨u', e1, e2⟩ := key
  rcases lk_dK e2 with rfl | ⟨o, rfl⟩
  · exact .inl e1
  · exact .inr ⟨o, e1⟩
theorem Kn.lst {F H : Hp} {a : Addr} {xs : List V} (h : Kn F H) (r : F a = some (.lst xs)) : H a = some (.lst xs) := by
  obtain ⟨u', e1, e2⟩ := h a _ nt_lst r
  rw [lk_lst e2] at e1
  exact e1
theorem Kn.sqL {K : PySem.W.Frag} {F H : Hp} {a : Addr} {xs : List V} (h : Kn F H) (r : SqL K F a xs) : SqL K H a xs := by
  rcases r with (r | ⟨o, r⟩) | r
  · exact .inl (.inl (h.lst r))
  · obtain ⟨u', e1, e2⟩ := h a _ nt_frz r
    rw [lk_frzL e2] at e1
    exact .inl (.inr ⟨o, e1⟩)
  · exact .inr r
theorem Kn.sqT {K : PySem.W.Frag} {F H : Hp} {a : Addr} {xs : List V} (h : Kn F H) (r : SqT K F a xs) : SqT K H a xs := by
  rcases r with (r | ⟨o, r⟩) | r
  · obtain ⟨u', e1, e2⟩ := h a _ nt_tup r
    rw [lk_tup e2] at e1
    exact .inl (.inl e1)
  · obtain ⟨u', e1, e2⟩ := h a _ nt_frz r
    rw [lk_frzT e2] at e1
    exact .inl (.inr ⟨o, e1⟩)
  · exact .inr r

mutual
/-- what a value stands for -/
inductive Rp (K : PySem.W.Frag) (F : Hp) : V → D → Prop
  | non : Rp K F .non .non
  | bl (b : Bool) : Rp K F (.bl b) (.bl b)
  | int (i : Int) : Rp K F (.int i) (.int i)
  | str (s : Str) : Rp K F (.str s) (.str s)
  | tup {a : Addr} {xs : List V} {ds : List D} : SqT K F a xs → RpL K F xs ds → Rp K F (.ref a) (.tup ds)
  | lst {a : Addr} {xs : List V} {ds : List D} : F a = some (.lst xs) → RpL K F xs ds → Rp K F (.ref a) (.lst ds)
  | dct {a : Addr} {ks : List (Key × V)} {ds : List (Str × D)} : Rd F a (.dK ks) → RpK K F ks ds → Rp K F (.ref a) (.dct ds)
inductive RpL (K : PySem.W.Frag) (F : Hp) : List V → List D → Prop
  | nil : RpL K F [] []
  | cons {v : V} {vs : List V} {d : D} {ds : List D} : Rp K F v d → RpL K F vs ds → RpL K F (v :: vs) (d :: ds)
inductive RpK (K : PySem.W.Frag) (F : Hp) : List (Key × V) → List (Str × D) → Prop
  | nil : RpK K F [] []
  | cons {s : Str} {v : V} {ks : List (Key × V)} {d : D} {ds : List (Str × D)} : Rp K F v d → RpK K F ks ds → RpK K F ((Sum.inr s, v) :: ks) ((s, d) :: ds)
end
section
variable {K : PySem.W.Frag} {F H : Hp}
mutual
theorem Rp.mono (h : Kn F H) : ∀ {v : V} {d : D}, Rp K F v d → Rp K H v d
  | _, _, .non => .non
  | _, _, .bl b => .bl b
  | _, _, .int i => .int i
  | _, _, .str s => .str s
  | _, _, .tup q r => .tup (h.sqT q) (RpL.mono h r)
  | _, _, .lst q r => .lst (h.lst q) (RpL.mono h r)
  | _, _, .dct q r => .dct (h.rd q) (RpK.mono h r)
theorem RpL.mono (h : Kn F H) : ∀ {vs : List V} {ds : List D}, RpL K F vs ds → RpL K H vs ds
  | _, _, .nil => .nil
  | _, _, .cons a b => .cons (Rp.mono h a) (RpL.mono h b)
theorem RpK.mono (h : Kn F H) : ∀ {ks : List (Key × V)} {ds : List (Str × D)}, RpK K F ks ds → RpK K H ks ds
  | _, _, .nil => .nil
  | _, _, .cons a b => .cons (Rp.mono h a) (RpK.mono h b)
end
theorem RpL.length : ∀ {vs : List V} {ds : List D}, RpL K F vs ds → vs.length = ds.length
  | _, _, .nil => rfl
  | _, _, .cons _ b => congrArg (· + 1) (RpL.length b)
theorem RpK.length : ∀ {ks : List (Key × V)} {ds : List (Str × D)}, RpK K F ks ds → ks.length = ds.length
  | _, _, .nil => rfl
  | _, _, .cons _ b => congrArg (· + 1) (RpK.length b)
theorem RpL.get : ∀ {vs : List V} {ds : List D} {i : Nat} {d : D}, RpL K F vs ds → ds[i]? = some d → ∃ v, vs[i]? = some v ∧ Rp K F v d
  | _, _, i, _, .nil, e => by simp at e
  | _, _, 0, _, .cons r _, e => by simp at e; subst e; exact ⟨_, rfl, r⟩
  | _, _, i + 1, d, .cons _ t, e => by
    obtain ⟨u, h1, h2⟩ := RpL.get (i := i) (d := d) t (by simpa using e)
    exact ⟨u, by simpa using h1, h2⟩
theorem RpL.getV : ∀ {vs : List V} {ds : List D} {i : Nat} {v : V}, RpL K F vs ds → vs[i]? = some v → ∃ d, ds[i]? = some d ∧ Rp K F v d
  | _, _, i, _, .nil, e => by simp at e
  | _, _, 0, _, .cons r _, e => by simp at e; subst e; exact ⟨_, rfl, r⟩
  | _, _, i + 1, v, .cons _ t, e => by
    obtain ⟨u, h1, h2⟩ := RpL.getV (i := i) (v := v) t (by simpa using e)
    exact ⟨u, by simpa using h1, h2⟩
theorem RpL.app : ∀ {vs us : List V} {ds es : List D}, RpL K F vs ds → RpL K F us es → RpL K F (vs ++ us) (ds ++ es)
  | _, _, _, _, .nil, s => s
  | _, _, _, _, .cons r t, s => .cons r (RpL.app t s)
theorem RpL.take : ∀ {vs : List V} {ds : List D} (n : Nat), RpL K F vs ds → RpL K F (vs.take n) (ds.take n)
  | _, _, 0, _ => .nil
  | _, _, _ + 1, .nil => .nil
  | _, _, n + 1, .cons r t => .cons r (RpL.take n t)
theorem RpL.drop : ∀ {vs : List V} {ds : List D} (n : Nat), RpL K F vs ds → RpL K F (vs.drop n) (ds.drop n)
  | _, _, 0, r => r
  | _, _, _ + 1, .nil => .nil
  | _, _, n + 1, .cons _ t => RpL.drop n t
theorem RpL.eraseIdx : ∀ {vs : List V} {ds : List D} (n : Nat), RpL K F vs ds → RpL K F (vs.eraseIdx n) (ds.eraseIdx n)
  | _, _, _, .nil => .nil
  | _, _, 0, .cons _ t => t
  | _, _, n + 1, .cons r t => .cons r (RpL.eraseIdx n t)
theorem RpL.rev : ∀ {vs : List V} {ds : List D}, RpL K F vs ds → RpL K F vs.reverse ds.reverse
  | _, _, .nil => .nil
  | _, _, .cons r t => by
    rw [List.reverse_cons, List.reverse_cons]
    exact (RpL.rev t).app (.cons r .nil)
theorem RpL.ints {vs : List V} : ∀ {ns : List Int}, RpL K F vs (ns.map D.int) → vs = ns.map V.int
  | [], h => by cases h; rfl
  | n :: ns, h => by
    cases h with
    | cons a b =>
      cases a
      rw [RpL.ints b]
      rfl
theorem RpL.strs {vs : List V} : ∀ {ns : List Str}, RpL K F vs (ns.map D.str) → vs = ns.map V.str
  | [], h => by cases h; rfl
  | n :: ns, h => by
    cases h with
    | cons a b =>
      cases a
      rw [RpL.strs b]
      rfl
theorem RpL.bls {vs : List V} : ∀ {ns : List Bool}, RpL K F vs (ns.map D.bl) → vs = ns.map V.bl
  | [], h => by cases h; rfl
  | n :: ns, h => by
    cases h with
    | cons a b =>
      cases a
      rw [RpL.bls b]
      rfl
theorem RpL.of_ints : ∀ (ns : List Int), RpL K F (ns.map V.int) (ns.map D.int)
  | [] => .nil
  | n :: ns => .cons (.int n) (RpL.of_ints ns)
theorem RpL.of_strs : ∀ (ns : List Str), RpL K F (ns.map V.str) (ns.map D.str)
  | [] => .nil
  | n :: ns => .cons (.str n) (RpL.of_strs ns)
theorem RpL.of_bls : ∀ (ns : List Bool), RpL K F (ns.map V.bl) (ns.map D.bl)
  | [] => .nil
  | n :: ns => .cons (.bl n) (RpL.of_bls ns)
theorem RpK.keys : ∀ {ks : List (Key × V)} {ds : List (Str × D)}, RpK K F ks ds → ks.map (·.1) = (ds.map (·.1)).map Sum.inr
  | _, _, .nil => rfl
  | _, _, .cons _ b => by
    show _ :: _ = _ :: _
    rw [RpK.keys b]
end

section
variable {K : PySem.W.Frag} {F : Hp} {v : V}
theorem Rp.inv_lst {ds : List D} (h : Rp K F v (.lst ds)) : ∃ a xs, v = .ref a ∧ F a = some (.lst xs) ∧ RpL K F xs ds := by
  cases h with
  | lst e r => exact ⟨_, _, rfl, e, r⟩
theorem Rp.inv_tup {ds : List D} (h : Rp K F v (.tup ds)) : ∃ a xs, v = .ref a ∧ SqT K F a xs ∧ RpL K F xs ds := by
  cases h with
  | tup e r => exact ⟨_, _, rfl, e, r⟩
theorem Rp.inv_dct {ds : List (Str × D)} (h : Rp K F v (.dct ds)) : ∃ a ks, v = .ref a ∧ Rd F a (.dK ks) ∧ RpK K F ks ds := by
  cases h with
  | dct e r => exact ⟨_, _, rfl, e, r⟩
theorem Rp.inv_int {i : Int} (h : Rp K F v (.int i)) : v = .int i := by cases h; rfl
theorem Rp.inv_str {i : Str} (h : Rp K F v (.str i)) : v = .str i := by cases h; rfl
theorem Rp.inv_bl {i : Bool} (h : Rp K F v (.bl i)) : v = .bl i := by cases h; rfl
theorem Rp.inv_non (h : Rp K F v .non) : v = .non := by cases h; rfl
end

/-- nothing but a table may stand at a -/
def Fr (H : Hp) (a : Addr) : Prop := ∀ u, NT u → H a ≠ some u
theorem Fr.of {H : Hp} {a : Addr} (h : H a = none) : Fr H a := fun u _ e => by
  rw [h] at e
  cases e
theorem Fr.ne {H : Hp} {a b : Addr} {u : HO} (h : Fr H b) (n : NT u) (e : H a = some u) : a ≠ b := fun z => h u n (by rw [← z]; exact e)
/-- one heap is told nowhere where the other is -/
def Off (O F : Hp) : Prop := ∀ a u, O a = some u → Fr F a
/-- F grows to F', H to H': what is new in F' was new in H -/
structure Gr (F F' H H' : Hp) : Prop where
  ff : ∀ a u, NT u → F a = some u → F' a = some u
  fr : ∀ a u, NT u → H a = some u → Fr F a → Fr F' a
  hh : ∀ a u, NT u → H a = some u → H' a = some u
  tb : LamX.Tabs Tbs.T H → LamX.Tabs Tbs.T H'
  kn : Kn F' H'
/-- what is nowhere but where neither tables nor code objects stand changes nothing of the tables -/
theorem tabs_of {T : List (Addr × Str)} {H H' : Hp} (h : ∀ a u, ¬ NX u → H a = some u → H' a = some u) (t : LamX.Tabs T H) : LamX.Tabs T H' := fun p hp => by
  obtain ⟨ps, h1, h2, h3⟩ := t p hp
  refine ⟨ps, h _ _ (fun z => z.1 ps rfl) h1, h2, fun pos cv hc => ?_⟩
  obtain ⟨c, e1, e2⟩ := h3 pos cv hc
  exact ⟨c, e1, h _ _ (fun z => z.2 _ rfl) e2⟩
theorem Gr.refl {F H : Hp} (h : Kn F H) : Gr F F H H := ⟨fun _ _ _ e => e, fun _ _ _ _ e => e, fun _ _ _ e => e, id, h⟩
/-- what is free in H' was so in H -/
def Mo (H H' : Hp) : Prop := ∀ a, Fr H' a → Fr H a
theorem Mo.trans {H H1 H2 : Hp} (a : Mo H H1) (b : Mo H1 H2) : Mo H H2 := fun x e => a x (b x e)
theorem Gr.mo {F F' H H' : Hp} (g : Gr F F' H H') : Mo H H' := fun a h u n e => h u n (g.hh a u n e)
theorem Gr.trans {F F1 F2 H H1 H2 : Hp} (a : Gr F F1 H H1) (b : Gr F1 F2 H1 H2) : Gr F F2 H H2 :=
  ⟨fun x u n e => b.ff x u n (a.ff x u n e), fun x u n e f => b.fr x u n (a.hh x u n e) (a.fr x u n e f), fun x u n e => b.hh x u n (a.hh x u n e), fun t => b.tb (a.tb t), b.kn⟩
theorem Gr.fk {F F' H H' : Hp} (g : Gr F F' H H') : Kn F F' := .of g.ff
theorem Gr.hk {F F' H H' : Hp} (g : Gr F F' H H') : Kn H H' := .of g.hh
theorem Kn.free {F H : Hp} (k : Kn F H) {a : Addr} (h : H a = none) : Fr F a := fun u n q => by
  obtain ⟨u', z, _⟩ := k a u n q
  rw [h] at z
  cases z
/-- a new object that only H knows -/
theorem Gr.new {F H : Hp} {p : Addr} {o : HO} (k : Kn F H) (h : H p = none) : Gr F F H (upd H p o) :=
  ⟨fun _ _ _ e => e, fun _ _ _ _ e => e, fun a u _ e => by rw [upd_ne (ne_of_none e h)]; exact e, tabs_of fun a u _ e => (by rw [upd_ne (ne_of_none e h)]; exact e), fun a u n e => by
    rw [upd_ne ((k.free h).ne n e)]
    exact k a u n e⟩
/-- a new object, frozen -/
theorem Gr.newF {F H : Hp} {p : Addr} {o : HO} (k : Kn F H) (h : H p = none) : Gr F (upd F p o) H (upd H p o) :=
  ⟨fun a u n e => by rw [upd_ne ((k.free h).ne n e)]; exact e, fun a u n e f => fun w m => by rw [upd_ne (ne_of_none e h)]; exact f w m, fun a u _ e => by rw [upd_ne (ne_of_none e h)]; exact e, tabs_of fun a u _ e => (by rw [upd_ne (ne_of_none e h)]; exact e), fun a u n e => by
    by_cases q : a = p
    · rw [q, upd_same] at e
      rw [q, upd_same]
      exact ⟨u, e, rfl⟩
    · rw [upd_ne q] at e
      rw [upd_ne q]
      exact k a u n e⟩

/-- a thing with a heap part of its own: O, what is known of it -/
structure Ow where
  φ : PySem.W.Frag → Hp → Hp → V → Prop
  mono : ∀ {K : PySem.W.Frag} {F F' O : Hp} {v : V}, Kn F F' → φ K F O v → φ K F' O v
/-- a thing that is looked at, in a heap O -/
structure Ob where
  φ : PySem.W.Frag → Hp → Hp → V → Prop
  mono : ∀ {K : PySem.W.Frag} {F F' O O' : Hp} {v : V}, Kn F F' → Kn O O' → φ K F O v → φ K F' O' v
/-- a list, a dict of one's own, to be written -/
def cM (K : PySem.W.Frag) (F O : Hp) (v : V) : D → Prop
  | .lst ds => ∃ p xs, v = .ref p ∧ O p = some (.lst xs) ∧ RpL K F xs ds
  | .dct ds => ∃ p ks, v = .ref p ∧ O p = some (.dK ks) ∧ RpK K F ks ds
  | _ => False
def oM (d : D) : Ow := ⟨fun K F O v => cM K F O v d, fun {K F F' O v} k h => by
  cases d with
  | lst ds => obtain ⟨p, xs, a, b, c⟩ := h; exact ⟨p, xs, a, b, c.mono k⟩
  | dct ds => obtain ⟨p, xs, a, b, c⟩ := h; exact ⟨p, xs, a, b, c.mono k⟩
  | _ => exact h.elim⟩
/-- what is seen of data that may be written later: its top in H, all below frozen -/
def ObsD (K : PySem.W.Frag) (F H : Hp) (v : V) : D → Prop
  | .lst ds => ∃ p xs, v = .ref p ∧ H p = some (.lst xs) ∧ RpL K F xs ds
  | .dct ds => ∃ p ks, v = .ref p ∧ Rd H p (.dK ks) ∧ RpK K F ks ds
  | d => Rp K F v d
theorem ObsD.of {K : PySem.W.Frag} {F H : Hp} {v : V} {d : D} (k : Kn F H) (h : Rp K F v d) : ObsD K F H v d := by
  cases h with
  | lst q r => exact ⟨_, _, rfl, k.lst q, r⟩
  | dct q r => exact ⟨_, _, rfl, k.rd q, r⟩
  | tup q r => exact .tup q r
  | non => exact .non
  | bl b => exact .bl b
  | int b => exact .int b
  | str b => exact .str b
theorem ObsD.mono {K : PySem.W.Frag} {F F' H H' : Hp} {v : V} {d : D} (k : Kn F F') (k' : Kn H H') (h : ObsD K F H v d) : ObsD K F' H' v d := by
  cases d with
  | lst ds => obtain ⟨p, xs, a, b, c⟩ := h; exact ⟨p, xs, a, k'.lst b, c.mono k⟩
  | dct ds => obtain ⟨p, xs, a, b, c⟩ := h; exact ⟨p, xs, a, k'.rd b, c.mono k⟩
  | non => exact Rp.mono k h
  | bl b => exact Rp.mono k h
  | int b => exact Rp.mono k h
  | str b => exact Rp.mono k h
  | tup b => exact Rp.mono k h
theorem ObsD.ofM {K : PySem.W.Frag} {F O H : Hp} {v : V} {d : D} (k : Kn O H) (h : cM K F O v d) : ObsD K F H v d := by
  cases d with
  | lst ds => obtain ⟨p, xs, a, b, c⟩ := h; exact ⟨p, xs, a, k.lst b, c⟩
  | dct ds => obtain ⟨p, xs, a, b, c⟩ := h; exact ⟨p, xs, a, k.rd (.inl b), c⟩
  | _ => exact h.elim
def oB (d : D) : Ob := ⟨fun K F O v => ObsD K F O v d, fun k k' h => h.mono k k'⟩
/-- a list of ints that may be locked or written (the script) -/
def oS (ns : List Int) : Ob := ⟨fun K F O v => ∃ p, v = .ref p ∧ SqL K O p (ns.map V.int), fun k k' ⟨p, a, b⟩ => ⟨p, a, k'.sqL b⟩⟩

/-- what an expression gives: frozen data, a new thing of its own, a thing looked at, a borrowed one (of the heap B at the entry) -/
inductive Vl where
  | im (d : D) | nw (o : Ow) | lo (o : Ob) | br (o : Ob)
abbrev Vl.ob (d : D) : Vl := .lo (oB d)
def VlOk (K : PySem.W.Frag) (B H0 F H : Hp) (v : V) : Vl → Prop
  | .im d => Rp K F v d
  | .nw o => ∃ O : Hp, (∀ a u, O a = some u → H a = some u ∧ NX u) ∧ Off O F ∧ Off O H0 ∧ o.φ K F O v
  | .lo o => o.φ K F H v
  | .br o => o.φ K F B v
section
variable {K : PySem.W.Frag} {B : Hp}
theorem VlOk.step {H0 F F' H H' : Hp} {v : V} {r : Vl} (g : Gr F F' H H') (h : VlOk K B H0 F H v r) : VlOk K B H0 F' H' v r := by
  cases r with
  | im d => exact Rp.mono g.fk h
  | nw o =>
    obtain ⟨O, a, b, c, e⟩ := h
    exact ⟨O, fun x u q => ⟨g.hh x u (a x u q).2.1 (a x u q).1, (a x u q).2⟩, fun x u q => g.fr x u (a x u q).2.1 (a x u q).1 (b x u q), c, o.mono g.fk e⟩
  | lo o => exact o.mono g.fk g.hk h
  | br o => exact o.mono g.fk (Kn.refl _) h
theorem VlOk.back {H0 H1 F H : Hp} {v : V} {r : Vl} (g : Mo H0 H1) (h : VlOk K B H1 F H v r) : VlOk K B H0 F H v r := by
  cases r with
  | nw o =>
    obtain ⟨O, a, b, c, e⟩ := h
    exact ⟨O, a, b, fun x u q => g x (c x u q), e⟩
  | im d => exact h
  | lo o => exact h
  | br o => exact h
inductive VlL (K : PySem.W.Frag) (B H0 F H : Hp) : List V → List Vl → Prop
  | nil : VlL K B H0 F H [] []
  | cons {v : V} {vs : List V} {r : Vl} {rs : List Vl} : VlOk K B H0 F H v r → VlL K B H0 F H vs rs → VlL K B H0 F H (v :: vs) (r :: rs)
theorem VlL.step {H0 F F' H H' : Hp} (g : Gr F F' H H') : ∀ {vs : List V} {rs : List Vl}, VlL K B H0 F H vs rs → VlL K B H0 F' H' vs rs
  | _, _, .nil => .nil
  | _, _, .cons a b => .cons (a.step g) (b.step g)
theorem VlL.back {H0 H1 F H : Hp} (g : Mo H0 H1) : ∀ {vs : List V} {rs : List Vl}, VlL K B H1 F H vs rs → VlL K B H0 F H vs rs
  | _, _, .nil => .nil
  | _, _, .cons a b => .cons (a.back g) (b.back g)
theorem VlL.ims {H0 F H : Hp} : ∀ {vs : List V} {ds : List D}, VlL K B H0 F H vs (ds.map .im) → RpL K F vs ds
  | [], [], _ => .nil
  | _ :: _, _ :: _, .cons a b => .cons a (VlL.ims b)
theorem VlL.length {H0 F H : Hp} : ∀ {vs : List V} {rs : List Vl}, VlL K B H0 F H vs rs → vs.length = rs.length
  | _, _, .nil => rfl
  | _, _, .cons _ b => congrArg (· + 1) (VlL.length b)
end

/-- what a slot holds: unknown, frozen data, a thing of one's own, a borrowed one -/
inductive Sl where
  | un | im (d : D) | ow (o : Ow) | br (o : Ob)
abbrev Env := List Sl
def SlE (K : PySem.W.Frag) (B F H : Hp) (x : Option (Option V)) : Sl → Prop
  | .un => True
  | .im d => ∃ v, x = some (some v) ∧ Rp K F v d
  | .ow o => ∃ v O, x = some (some v) ∧ Kn O H ∧ o.φ K F O v
  | .br o => ∃ v, x = some (some v) ∧ o.φ K F B v
/-- what stood at the entry stands, the tables are as they are to be -/
structure Bn (B H : Hp) : Prop where
  kn : Kn B H
  tb : LamX.Tabs Tbs.T H
theorem Bn.step {B F F' H H' : Hp} (g : Gr F F' H H') (b : Bn B H) : Bn B H' := ⟨b.kn.trans g.hk, g.tb b.tb⟩
structure RelE (K : PySem.W.Frag) (B F H : Hp) (σ : L2.St) (env : Env) : Prop where
  kn : Kn F H
  bn : Bn B H
  len : σ.length = env.length
  sl : ∀ (i : Nat) (s : Sl), env[i]? = some s → SlE K B F H (σ[i]?) s
section
variable {K : PySem.W.Frag} {B : Hp}
theorem SlE.mono {F F' H H' : Hp} {x : Option (Option V)} {s : Sl} (k : Kn F F') (k' : Kn H H') (h : SlE K B F H x s) : SlE K B F' H' x s := by
  cases s with
  | un => trivial
  | im d => obtain ⟨v, a, b⟩ := h; exact ⟨v, a, b.mono k⟩
  | ow o => obtain ⟨v, O, a, b, c⟩ := h; exact ⟨v, O, a, b.trans k', o.mono k c⟩
  | br o => obtain ⟨v, a, c⟩ := h; exact ⟨v, a, o.mono k (Kn.refl _) c⟩
theorem RelE.step {F F' H H' : Hp} {σ : L2.St} {env : Env} (g : Gr F F' H H') (h : RelE K B F H σ env) : RelE K B F' H' σ env :=
  ⟨g.kn, h.bn.step g, h.len, fun i s e => (h.sl i s e).mono g.fk g.hk⟩
end

/-- an expression's reading gives r -/
def Ev (K : PySem.W.Frag) (B : Hp) (te : TE) (env : Env) (r : Vl) : Prop :=
  ∀ F H σ, RelE K B F H σ env → ∀ Q : VK, (∀ v F' H', Gr F F' H H' → VlOk K B H F' H' v r → Q v H') → te σ H Q
def EvT (K : PySem.W.Frag) (B : Hp) (tt : TT) (env : Env) (b : Bool) : Prop :=
  ∀ F H σ, RelE K B F H σ env → ∀ Q : Bool → Hp → Prop, (∀ F' H', Gr F F' H H' → Q b H') → tt σ H Q
def EvA (K : PySem.W.Frag) (B : Hp) (ta : TA) (env : Env) (rs : List Vl) : Prop :=
  ∀ F H σ, RelE K B F H σ env → ∀ Q : List V → Hp → Prop, (∀ vs F' H', Gr F F' H H' → VlL K B H F' H' vs rs → Q vs H') → ta σ H Q
/-- an operation on two values, on one, on a list of values -/
def RV (K : PySem.W.Frag) (r : R2) (a b c : Vl) : Prop :=
  ∀ B F H x y, Kn F H → (∃ H0, VlOk K B H0 F H x a) → (∃ H0, VlOk K B H0 F H y b) → ∀ Q : VK, (∀ v F' H', Gr F F' H H' → VlOk K B H F' H' v c → Q v H') → r x y H Q
def RU (K : PySem.W.Frag) (r : V → Hp → VK → Prop) (a c : Vl) : Prop :=
  ∀ B F H x, Kn F H → (∃ H0, VlOk K B H0 F H x a) → ∀ Q : VK, (∀ v F' H', Gr F F' H H' → VlOk K B H F' H' v c → Q v H') → r x H Q
def RC (K : PySem.W.Frag) (r : List V → Hp → VK → Prop) (as : List Vl) (c : Vl) : Prop :=
  ∀ B F H xs, Kn F H → (∃ H0, VlL K B H0 F H xs as) → ∀ Q : VK, (∀ v F' H', Gr F F' H H' → VlOk K B H F' H' v c → Q v H') → r xs H Q

/-- the heap F with O besides -/
def join (F O : Hp) : Hp := fun a => match O a with
  | some u => some u
  | none => F a
theorem join_in {F O : Hp} {a : Addr} {u : HO} (h : O a = some u) : join F O a = some u := by unfold join; rw [h]
theorem join_out {F O : Hp} {a : Addr} (h : O a = none) : join F O a = F a := by unfold join; rw [h]
theorem join_kn {F O : Hp} (h : Off O F) : ∀ a u, NT u → F a = some u → join F O a = some u := fun a u n e => by
  cases q : O a with
  | none => rw [join_out q]; exact e
  | some w => exact absurd e (h a w q u n)
theorem oM_freeze {K : PySem.W.Frag} {F O : Hp} {v : V} {d : D} (off : Off O F) (e : cM K F O v d) : Rp K (join F O) v d := by
  have k : Kn F (join F O) := .of (join_kn off)
  cases d with
  | lst ds => obtain ⟨p, xs, rfl, h2, h3⟩ := e; exact .lst (join_in h2) (h3.mono k)
  | dct ds => obtain ⟨p, xs, rfl, h2, h3⟩ := e; exact .dct (.inl (join_in h2)) (h3.mono k)
  | _ => exact e.elim
/-- a part of H, off F and off H0, is frozen -/
theorem Gr.freeze {F F' O H H' : Hp} (g : Gr F F' H H') (h1 : ∀ a u, O a = some u → H' a = some u ∧ NX u) (h2 : Off O F') (h3 : Off O H) : Gr F (join F' O) H H' :=
  ⟨fun a u n e => join_kn h2 a u n (g.ff a u n e), fun a u n e f => by
    have z : O a = none := by
      cases w : O a with
      | none => rfl
      | some w' => exact absurd e (h3 a w' w u n)
    intro w m
    rw [join_out z]
    exact g.fr a u n e f w m, g.hh, g.tb, fun a u n e => by
    cases w : O a with
    | none => rw [join_out w] at e; exact g.kn a u n e
    | some w' =>
      rw [join_in w] at e
      cases e
      exact ⟨_, (h1 a _ w).1, rfl⟩⟩

section
variable {K : PySem.W.Frag} {B : Hp} {env : Env} {ta tb te : TE} {a b c r : Vl} {d : D}
/-! ### kinds of results -/
theorem Ev.weak (h : Ev K B te env a) (k : ∀ H0 F H v, Kn F H → Kn B H → VlOk K B H0 F H v a → ∃ F', Gr F F' H H ∧ VlOk K B H0 F' H v b) : Ev K B te env b := fun F H σ R Q q =>
  h F H σ R Q fun v F' H' g x => by
    obtain ⟨F2, g2, y⟩ := k H F' H' v g.kn (R.bn.kn.trans g.hk) x
    exact q v F2 H' (g.trans g2) y
theorem ev_ob (h : Ev K B te env (.im d)) : Ev K B te env (.ob d) := h.weak fun H0 F H v kn _ x => ⟨F, Gr.refl kn, ObsD.of kn x⟩
theorem ev_bl {o : Ob} (h : Ev K B te env (.br o)) : Ev K B te env (.lo o) := h.weak fun H0 F H v kn bn x => ⟨F, Gr.refl kn, o.mono (Kn.refl _) bn x⟩
theorem ev_nl {o : Ow} {o' : Ob} (c : ∀ K F O H v, Kn O H → o.φ K F O v → o'.φ K F H v) (h : Ev K B te env (.nw o)) : Ev K B te env (.lo o') := h.weak fun H0 F H v kn _ ⟨O, a, _, _, e⟩ => ⟨F, Gr.refl kn, c _ _ _ _ _ (.of fun x u _ q => (a x u q).1) e⟩
theorem ev_no (h : Ev K B te env (.nw (oM d))) : Ev K B te env (.ob d) := ev_nl (o' := oB d) (fun _ _ _ _ _ k e => ObsD.ofM k e) h
theorem ev_im (h : Ev K B te env (.nw (oM d))) : Ev K B te env (.im d) := fun F H σ R Q q =>
  h F H σ R Q fun v F' H' g ⟨O, h1, h2, h3, h4⟩ => q v (join F' O) H' (g.freeze h1 h2 h3) (oM_freeze h2 h4)

/-! ### names, constants -/
theorem ev_var {i : Nat} (h : env[i]? = some (.im d)) : Ev K B (tVar i) env (.im d) := fun F H σ R Q q => by
  obtain ⟨v, e, r⟩ := R.sl i _ h
  exact ⟨v, e, q v F H (Gr.refl R.kn) r⟩
theorem ev_varL {i : Nat} {o : Ow} {o' : Ob} (h : env[i]? = some (.ow o)) (c : ∀ K F O H v, Kn O H → o.φ K F O v → o'.φ K F H v) : Ev K B (tVar i) env (.lo o') := fun F H σ R Q q => by
  obtain ⟨v, O, e, kO, x⟩ := R.sl i _ h
  exact ⟨v, e, q v F H (Gr.refl R.kn) (c _ _ _ _ _ kO x)⟩
theorem ev_varO {i : Nat} (h : env[i]? = some (.ow (oM d))) : Ev K B (tVar i) env (.ob d) := ev_varL h fun _ _ _ _ _ k e => ObsD.ofM k e
theorem ev_varR {i : Nat} {o : Ob} (h : env[i]? = some (.br o)) : Ev K B (tVar i) env (.br o) := fun F H σ R Q q => by
  obtain ⟨v, e, x⟩ := R.sl i _ h
  exact ⟨v, e, q v F H (Gr.refl R.kn) x⟩
theorem ev_varB {i : Nat} {o : Ob} (h : env[i]? = some (.br o)) : Ev K B (tVar i) env (.lo o) := ev_bl (ev_varR h)
theorem ev_int {i : Int} : Ev K B (tC (.int i)) env (.im (.int i)) := fun F H σ R Q q => q _ F H (Gr.refl R.kn) (.int i)
theorem ev_str {s : Str} : Ev K B (tC (.str s)) env (.im (.str s)) := fun F H σ R Q q => q _ F H (Gr.refl R.kn) (.str s)
theorem ev_bool {s : Bool} : Ev K B (tC (.bl s)) env (.im (.bl s)) := fun F H σ R Q q => q _ F H (Gr.refl R.kn) (.bl s)
theorem ev_non : Ev K B (tC .non) env (.im .non) := fun F H σ R Q q => q _ F H (Gr.refl R.kn) .non
/-- a module's own tuple -/
theorem ev_refT {p : Addr} {xs : List V} {ds : List D} (h : ∀ H, SqT K H p xs) (k : ∀ F, RpL K F xs ds) : Ev K B (tC (.ref p)) env (.im (.tup ds)) := fun F H σ R Q q => q _ F H (Gr.refl R.kn) (.tup (h F) (k F))

/-! ### operations -/
theorem ev_op {r2 : R2} (ha : Ev K B ta env a) (hb : Ev K B tb env b) (hr : RV K r2 a b c) : Ev K B (tOp r2 ta tb) env c := fun F H σ R Q q =>
  ha F H σ R _ fun x F1 H1 g1 x1 => hb F1 H1 σ (R.step g1) _ fun y F2 H2 g2 y2 =>
    hr B F2 H2 x y g2.kn ⟨_, x1.step g2⟩ ⟨_, y2⟩ Q fun v F3 H3 g3 v3 => q v F3 H3 ((g1.trans g2).trans g3) (v3.back (g1.mo.trans g2.mo))
theorem ev_un {r2 : V → Hp → VK → Prop} (ha : Ev K B ta env a) (hr : RU K r2 a c) : Ev K B (tUn r2 ta) env c := fun F H σ R Q q =>
  ha F H σ R _ fun x F1 H1 g1 x1 => hr B F1 H1 x g1.kn ⟨_, x1⟩ Q fun v F3 H3 g3 v3 => q v F3 H3 (g1.trans g3) (v3.back g1.mo)
theorem ev_cb {r2 : List V → Hp → VK → Prop} {t : TA} {as : List Vl} (ha : EvA K B t env as) (hr : RC K r2 as c) : Ev K B (tCB r2 t) env c := fun F H σ R Q q =>
  ha F H σ R _ fun x F1 H1 g1 x1 => hr B F1 H1 x g1.kn ⟨_, x1⟩ Q fun v F3 H3 g3 v3 => q v F3 H3 (g1.trans g3) (v3.back g1.mo)
theorem ea_nil : EvA K B tNil env [] := fun F H σ R Q q => q [] F H (Gr.refl R.kn) .nil
theorem ea_cons {t : TA} {as : List Vl} (ha : Ev K B ta env a) (ht : EvA K B t env as) : EvA K B (tCons ta t) env (a :: as) := fun F H σ R Q q =>
  ha F H σ R _ fun x F1 H1 g1 x1 => ht F1 H1 σ (R.step g1) _ fun y F2 H2 g2 y2 => q (x :: y) F2 H2 (g1.trans g2) (.cons (x1.step g2) (y2.back g1.mo))
theorem et_test {bb : Bool} (h : Ev K B te env (.im (.bl bb))) : EvT K B (tTest te) env bb := fun F H σ R Q q =>
  h F H σ R _ fun v F1 H1 g1 x1 => by
    have x1 : Rp K F1 v (.bl bb) := x1
    cases x1
    exact ⟨bb, rfl, q F1 H1 g1⟩
theorem et_B {bb : Bool} (h : Ev K B te env (.im (.bl bb))) : EvT K B (tB te) env bb := fun F H σ R Q q =>
  h F H σ R _ fun v F1 H1 g1 x1 => by
    have x1 : Rp K F1 v (.bl bb) := x1
    cases x1
    exact ⟨bb, rfl, q F1 H1 g1⟩
theorem et_is {t : TT} {p q : Bool} (h : EvT K B t env p) (e : p = q) : EvT K B t env q := e ▸ h
theorem ev_is (h : Ev K B te env a) (e : a = b) : Ev K B te env b := e ▸ h
theorem et_and {t u : TT} {p q : Bool} (h : EvT K B t env p) (k : p = true → EvT K B u env q) : EvT K B (tAnd t u) env (p && q) := fun F H σ R Q w =>
  h F H σ R _ fun F1 H1 g1 => by
    cases p with
    | true => exact k rfl F1 H1 σ (R.step g1) Q fun F2 H2 g2 => w F2 H2 (g1.trans g2)
    | false => exact w F1 H1 g1
theorem et_or {t u : TT} {p q : Bool} (h : EvT K B t env p) (k : p = false → EvT K B u env q) : EvT K B (tOr t u) env (p || q) := fun F H σ R Q w =>
  h F H σ R _ fun F1 H1 g1 => by
    cases p with
    | true => exact w F1 H1 g1
    | false => exact k rfl F1 H1 σ (R.step g1) Q fun F2 H2 g2 => w F2 H2 (g1.trans g2)
theorem et_not {t : TT} {p : Bool} (h : EvT K B t env p) : EvT K B (tNot t) env (!p) := fun F H σ R Q w => h F H σ R _ fun F1 H1 g1 => w F1 H1 g1
theorem ev_andV {p q : Bool} (h : Ev K B ta env (.im (.bl p))) (k : p = true → Ev K B tb env (.im (.bl q))) : Ev K B (tAndV ta tb) env (.im (.bl (p && q))) := fun F H σ R Q w =>
  h F H σ R _ fun v F1 H1 g1 x1 => by
    have x1 : Rp K F1 v (.bl p) := x1
    cases x1
    refine ⟨p, rfl, ?_⟩
    cases p with
    | true => exact k rfl F1 H1 σ (R.step g1) Q fun v F2 H2 g2 => w v F2 H2 (g1.trans g2)
    | false => exact w _ F1 H1 g1 (.bl false)
theorem ev_orV {p q : Bool} (h : Ev K B ta env (.im (.bl p))) (k : p = false → Ev K B tb env (.im (.bl q))) : Ev K B (tOrV ta tb) env (.im (.bl (p || q))) := fun F H σ R Q w =>
  h F H σ R _ fun v F1 H1 g1 x1 => by
    have x1 : Rp K F1 v (.bl p) := x1
    cases x1
    refine ⟨p, rfl, ?_⟩
    cases p with
    | true => exact w _ F1 H1 g1 (.bl true)
    | false => exact k rfl F1 H1 σ (R.step g1) Q fun v F2 H2 g2 => w v F2 H2 (g1.trans g2)
theorem ev_notV {p : Bool} (h : Ev K B ta env (.im (.bl p))) : Ev K B (tNotV ta) env (.im (.bl (!p))) := fun F H σ R Q w =>
  h F H σ R _ fun v F1 H1 g1 x1 => by
    have x1 : Rp K F1 v (.bl p) := x1
    cases x1
    exact ⟨p, rfl, w _ F1 H1 g1 (.bl _)⟩
theorem ev_if {t : TT} {p : Bool} (h : EvT K B t env p) (h1 : p = true → Ev K B ta env a) (h2 : p = false → Ev K B tb env a) : Ev K B (tIf t ta tb) env a := fun F H σ R Q w =>
  h F H σ R _ fun F1 H1 g1 => by
    cases p with
    | true => exact h1 rfl F1 H1 σ (R.step g1) Q fun v F2 H2 g2 x => w v F2 H2 (g1.trans g2) (x.back g1.mo)
    | false => exact h2 rfl F1 H1 σ (R.step g1) Q fun v F2 H2 g2 x => w v F2 H2 (g1.trans g2) (x.back g1.mo)
end
end NM
/-! Statements upon data (Sx), what is walked, comprehensions. -/
namespace NM
open PySem PySem.Spec PyProof.Rows L2
variable [Tbs]

def SlS (K : PySem.W.Frag) (B F O : Hp) (x : Option (Option V)) : Sl → Prop
  | .un => True
  | .im d => ∃ v, x = some (some v) ∧ Rp K F v d
  | .ow o => ∃ v, x = some (some v) ∧ o.φ K F O v
  | .br o => ∃ v, x = some (some v) ∧ o.φ K F B v
/-- two parts of one's own that share no place -/
def OffP (O P : Hp) : Prop := ∀ a u, O a = some u → P a = none
/-- the state of a def at work: H0, F0 at its entry; Os the parts of its own things -/
structure RelW (K : PySem.W.Frag) (B H0 F0 F H : Hp) (σ : L2.St) (env : Env) (Os : Nat → Hp) : Prop where
  gr : Gr F0 F H0 H
  bn : Bn B H0
  len : σ.length = env.length
  sl : ∀ (i : Nat) (s : Sl), env[i]? = some s → SlS K B F (Os i) (σ[i]?) s
  oo : ∀ i j, i ≠ j → OffP (Os i) (Os j)
  of : ∀ i, Off (Os i) F
  oz : ∀ i, Off (Os i) H0
  oh : ∀ i a u, Os i a = some u → H a = some u ∧ NX u
def RelS (K : PySem.W.Frag) (B H0 F0 F H : Hp) (σ : L2.St) (env : Env) : Prop := ∃ Os, RelW K B H0 F0 F H σ env Os
theorem OffP.none_of {O F : Hp} {a : Addr} {u : HO} (h : OffP O F) (e : F a = some u) : O a = none := by
  cases q : O a with
  | none => rfl
  | some w =>
    rw [h a w q] at e
    cases e
theorem OffP.symm {O F : Hp} (h : OffP O F) : OffP F O := fun a u e => h.none_of e
theorem Off.none_of {O F : Hp} {a : Addr} {u : HO} (h : Off O F) (n : NT u) (e : F a = some u) : O a = none := by
  cases q : O a with
  | none => rfl
  | some w => exact absurd e (h a w q u n)
section
variable {K : PySem.W.Frag} {B H0 F0 F F' H H' : Hp} {σ : L2.St} {env : Env} {Os : Nat → Hp}
theorem SlS.mono {O : Hp} {x : Option (Option V)} {s : Sl} (k : Kn F F') (h : SlS K B F O x s) : SlS K B F' O x s := by
  cases s with
  | un => trivial
  | im d => obtain ⟨v, a, b⟩ := h; exact ⟨v, a, b.mono k⟩
  | ow o => obtain ⟨v, a, c⟩ := h; exact ⟨v, a, o.mono k c⟩
  | br o => obtain ⟨v, a, c⟩ := h; exact ⟨v, a, o.mono k (Kn.refl _) c⟩
theorem RelW.e (R : RelW K B H0 F0 F H σ env Os) : RelE K B F H σ env :=
  ⟨R.gr.kn, R.bn.step R.gr, R.len, fun i s e => by
    have h := R.sl i s e
    cases s with
    | un => trivial
    | im d => exact h
    | ow o => obtain ⟨v, a, c⟩ := h; exact ⟨v, Os i, a, .of fun x u _ q => (R.oh i x u q).1, c⟩
    | br o => exact h⟩
theorem RelS.e (R : RelS K B H0 F0 F H σ env) : RelE K B F H σ env := let ⟨_, R⟩ := R; R.e
theorem RelW.step (g : Gr F F' H H') (R : RelW K B H0 F0 F H σ env Os) : RelW K B H0 F0 F' H' σ env Os :=
  ⟨R.gr.trans g, R.bn, R.len, fun i s e => (R.sl i s e).mono g.fk, R.oo, fun i a u e => g.fr a u (R.oh i a u e).2.1 (R.oh i a u e).1 (R.of i a u e), R.oz, fun i a u e => ⟨g.hh a u (R.oh i a u e).2.1 (R.oh i a u e).1, (R.oh i a u e).2⟩⟩
theorem RelS.step (g : Gr F F' H H') (R : RelS K B H0 F0 F H σ env) : RelS K B H0 F0 F' H' σ env := let ⟨Os, R⟩ := R; ⟨Os, R.step g⟩
theorem get_set_self {α : Type} {l : List α} {i : Nat} {x s : α} (h : (l.set i x)[i]? = some s) : s = x ∧ i < l.length := by
  have hi : i < l.length := by
    have := (List.getElem?_eq_some_iff.mp h).1
    rw [List.length_set] at this
    exact this
  rw [List.getElem?_set_self hi] at h
  exact ⟨(Option.some.inj h).symm, hi⟩
theorem RelW.setI {v : V} {d : D} {i : Nat} (R : RelW K B H0 F0 F H σ env Os) (r : Rp K F v d) : RelW K B H0 F0 F H (σ.set i (some v)) (env.set i (.im d)) Os := by
  refine ⟨R.gr, R.bn, by rw [List.length_set, List.length_set]; exact R.len, fun j s e => ?_, R.oo, R.of, R.oz, R.oh⟩
  by_cases q : j = i
  · subst q
    obtain ⟨rfl, hi⟩ := get_set_self e
    exact ⟨v, List.getElem?_set_self (by rw [R.len]; exact hi), r⟩
  · rw [List.getElem?_set_ne (Ne.symm q)] at e
    rw [List.getElem?_set_ne (Ne.symm q)]
    exact R.sl j s e
theorem RelS.setI {v : V} {d : D} {i : Nat} (R : RelS K B H0 F0 F H σ env) (r : Rp K F v d) : RelS K B H0 F0 F H (σ.set i (some v)) (env.set i (.im d)) := let ⟨Os, R⟩ := R; ⟨Os, R.setI r⟩
theorem RelS.setB {v : V} {o : Ob} {i : Nat} (R : RelS K B H0 F0 F H σ env) (r : o.φ K F B v) : RelS K B H0 F0 F H (σ.set i (some v)) (env.set i (.br o)) := by
  obtain ⟨Os, R⟩ := R
  refine ⟨Os, R.gr, R.bn, by rw [List.length_set, List.length_set]; exact R.len, fun j s e => ?_, R.oo, R.of, R.oz, R.oh⟩
  by_cases q : j = i
  · subst q
    obtain ⟨rfl, hi⟩ := get_set_self e
    exact ⟨v, List.getElem?_set_self (by rw [R.len]; exact hi), r⟩
  · rw [List.getElem?_set_ne (Ne.symm q)] at e
    rw [List.getElem?_set_ne (Ne.symm q)]
    exact R.sl j s e
/-- another part for the i-th slot's thing -/
def re (Os : Nat → Hp) (i : Nat) (O : Hp) : Nat → Hp := fun j => if j = i then O else Os j
theorem re_same {i : Nat} {O : Hp} : re Os i O i = O := if_pos rfl
theorem re_ne {i j : Nat} {O : Hp} (h : j ≠ i) : re Os i O j = Os j := if_neg h
theorem RelW.setO {v : V} {o : Ow} {i : Nat} {O : Hp} (R : RelW K B H0 F0 F H σ env Os) (h1 : ∀ a u, O a = some u → H a = some u ∧ NX u) (h2 : Off O F) (h3 : ∀ j, j ≠ i → OffP O (Os j)) (h4 : Off O H0) (r : o.φ K F O v) :
    RelW K B H0 F0 F H (σ.set i (some v)) (env.set i (.ow o)) (re Os i O) := by
  refine ⟨R.gr, R.bn, by rw [List.length_set, List.length_set]; exact R.len, fun j s e => ?_, fun j k n => ?_, fun j => ?_, fun j => ?_, fun j => ?_⟩
  · by_cases q : j = i
    · subst q
      obtain ⟨rfl, hi⟩ := get_set_self e
      rw [re_same]
      exact ⟨v, List.getElem?_set_self (by rw [R.len]; exact hi), r⟩
    · rw [List.getElem?_set_ne (Ne.symm q)] at e
      rw [List.getElem?_set_ne (Ne.symm q), re_ne q]
      exact R.sl j s e
  · by_cases q : j = i
    · subst q
      rw [re_same, re_ne (Ne.symm n)]
      exact h3 k (Ne.symm n)
    · rw [re_ne q]
      by_cases p : k = i
      · subst p
        rw [re_same]
        exact (h3 j q).symm
      · rw [re_ne p]
        exact R.oo j k n
  · by_cases q : j = i
    · rw [q, re_same]; exact h2
    · rw [re_ne q]; exact R.of j
  · by_cases q : j = i
    · rw [q, re_same]; exact h4
    · rw [re_ne q]; exact R.oz j
  · by_cases q : j = i
    · rw [q, re_same]; exact h1
    · rw [re_ne q]; exact R.oh j
theorem RelS.setW {v : V} {o : Ow} {i : Nat} (R : RelS K B H0 F0 F H σ env) (g : Gr F F' H H') (r : VlOk K B H F' H' v (.nw o)) : RelS K B H0 F0 F' H' (σ.set i (some v)) (env.set i (.ow o)) := by
  obtain ⟨Os, R⟩ := R
  obtain ⟨O, h1, h2, h3, h4⟩ := r
  refine ⟨_, (R.step g).setO h1 h2 (fun j _ a u e => ?_) (fun a u e => R.gr.mo a (h3 a u e)) h4⟩
  cases q : Os j a with
  | none => rfl
  | some w =>
    obtain ⟨q1, q2⟩ := R.oh j a w q
    exact absurd q1 (h3 a u e w q2.1)
/-- a slot's own data are frozen -/
theorem RelS.freeze {d : D} {i : Nat} (R : RelS K B H0 F0 F H σ env) (h : env[i]? = some (.ow (oM d))) : ∃ F', RelS K B H0 F0 F' H σ (env.set i (.im d)) := by
  obtain ⟨Os, R⟩ := R
  obtain ⟨v, e, r⟩ := R.sl i _ h
  have k : Kn F (join F (Os i)) := .of (join_kn (R.of i))
  refine ⟨join F (Os i), re Os i (fun _ => none), R.gr.freeze (R.oh i) (R.of i) (R.oz i), R.bn, by rw [List.length_set]; exact R.len, fun j s q => ?_, fun j l n => ?_, fun j => ?_, fun j => ?_, fun j => ?_⟩
  · by_cases p : j = i
    · subst p
      obtain ⟨rfl, _⟩ := get_set_self q
      exact ⟨v, e, oM_freeze (R.of j) r⟩
    · rw [List.getElem?_set_ne (Ne.symm p)] at q
      rw [re_ne p]
      exact (R.sl j s q).mono k
  · by_cases p : j = i
    · subst p
      rw [re_same]
      exact fun a u z => nomatch z
    · rw [re_ne p]
      by_cases p' : l = i
      · subst p'
        rw [re_same]
        exact fun a u z => rfl
      · rw [re_ne p']
        exact R.oo j l n
  · by_cases p : j = i
    · subst p
      rw [re_same]
      exact fun a u z => nomatch z
    · rw [re_ne p]
      exact fun a u z w m => by rw [join_out ((R.oo j i p) a u z)]; exact R.of j a u z w m
  · by_cases p : j = i
    · subst p
      rw [re_same]
      exact fun a u z => nomatch z
    · rw [re_ne p]
      exact R.oz j
  · by_cases p : j = i
    · subst p
      rw [re_same]
      exact fun a u z => nomatch z
    · rw [re_ne p]
      exact R.oh j
/-- a slot is forgotten -/
theorem RelS.drop {i : Nat} (R : RelS K B H0 F0 F H σ env) : RelS K B H0 F0 F H σ (env.set i .un) := by
  obtain ⟨Os, R⟩ := R
  refine ⟨Os, R.gr, R.bn, by rw [List.length_set]; exact R.len, fun j s q => ?_, R.oo, R.of, R.oz, R.oh⟩
  by_cases p : j = i
  · subst p
    obtain ⟨rfl, _⟩ := get_set_self q
    trivial
  · rw [List.getElem?_set_ne (Ne.symm p)] at q
    exact R.sl j s q
/-- the i-th slot's own thing is written: its part O becomes O' -/
theorem RelW.write {v : V} {o : Ow} {i : Nat} {O' : Hp} {H' : Hp} (R : RelW K B H0 F0 F H σ env Os) (hi : i < env.length) (hv : σ[i]? = some (some v)) (same : ∀ a, Os i a = none → H' a = H a) (dom : ∀ a u, O' a = some u → ∃ w, Os i a = some w) (hO : ∀ a u, O' a = some u → H' a = some u ∧ NX u)
    (r : o.φ K F O' v) : RelW K B H0 F0 F H' σ (env.set i (.ow o)) (re Os i O') := by
  have off : ∀ {G : Hp}, Off (Os i) G → Off O' G := fun {G} h a u e => let ⟨w, q⟩ := dom a u e; h a w q
  have offP : ∀ {G : Hp}, OffP (Os i) G → OffP O' G := fun {G} h a u e => let ⟨w, q⟩ := dom a u e; h a w q
  refine ⟨⟨R.gr.ff, R.gr.fr, fun a u n e => ?_, fun t => tabs_of (fun a u n e => ?_) (R.gr.tb t), fun a u n e => ?_⟩, R.bn, by rw [List.length_set]; exact R.len, fun j s e => ?_, fun j k n => ?_, fun j => ?_, fun j => ?_, fun j a u e => ?_⟩
  · rw [same a ((R.oz i).none_of n e)]
    exact R.gr.hh a u n e
  · rw [same a]
    · exact e
    · cases q : Os i a with
      | none => rfl
      | some w =>
        obtain ⟨q1, q2⟩ := R.oh i a w q
        rw [q1] at e
        cases e
        exact absurd q2 n
  · rw [same a ((R.of i).none_of n e)]
    exact R.gr.kn a u n e
  · by_cases q : j = i
    · subst q
      obtain ⟨rfl, _⟩ := get_set_self e
      rw [re_same]
      exact ⟨v, hv, r⟩
    · rw [List.getElem?_set_ne (Ne.symm q)] at e
      rw [re_ne q]
      exact R.sl j s e
  · by_cases q : j = i
    · subst q
      rw [re_same, re_ne (Ne.symm n)]
      exact offP (R.oo j k n)
    · rw [re_ne q]
      by_cases p : k = i
      · subst p
        rw [re_same]
        exact (offP (R.oo k j (Ne.symm n))).symm
      · rw [re_ne p]
        exact R.oo j k n
  · by_cases q : j = i
    · rw [q, re_same]; exact off (R.of i)
    · rw [re_ne q]; exact R.of j
  · by_cases q : j = i
    · rw [q, re_same]; exact off (R.oz i)
    · rw [re_ne q]; exact R.oz j
  · by_cases q : j = i
    · rw [q, re_same] at e; exact hO a u e
    · rw [re_ne q] at e
      rw [same a ((R.oo i j (Ne.symm q)).none_of e)]
      exact R.oh j a u e
end

/-! ### statements -/
inductive Out where
  | nx (e : Env) | rt (r : Vl) (e : Env) | bk (e : Env) | ct (e : Env) | ex (C : Addr) (e : Env)
/-- what an end must give -/
def Cont (K : PySem.W.Frag) (B : Hp) (W : WX) (H0 F0 : Hp) (D : Ends) : Out → Prop
  | .nx e => ∀ F H σ, RelS K B H0 F0 F H σ e → D.nx σ H
  | .bk e => ∀ F H σ, RelS K B H0 F0 F H σ e → D.bk σ H
  | .ct e => ∀ F H σ, RelS K B H0 F0 F H σ e → D.ct σ H
  | .rt (.im d) e => ∀ F H σ v, RelS K B H0 F0 F H σ e → Rp K F v d → D.rt v H
  | .rt (.nw o) _ => ∀ F H v, Gr F0 F H0 H → VlOk K B H0 F H v (.nw o) → D.rt v H
  | .rt _ _ => False
  | .ex C e => ∀ F H σ, RelS K B H0 F0 F H σ e → W (.ref C) none σ H
def Sx (K : PySem.W.Frag) (B : Hp) (W : WX) (ts : TS) (env : Env) (P : Out → Prop) : Prop :=
  ∀ H0 F0 F H σ, RelS K B H0 F0 F H σ env → ∀ D : Ends, (∀ o, P o → Cont K B W H0 F0 D o) → ts D σ H
/-- the ends of a first part, where u comes behind -/
def sq (K : PySem.W.Frag) (B : Hp) (W : WX) (u : TS) (P : Out → Prop) : Out → Prop
  | .nx e => Sx K B W u e P
  | o => P o
/-- the ends of a loop's body -/
def lp (I : Env → Prop) (P : Out → Prop) : Out → Prop
  | .nx e => I e
  | .ct e => I e
  | .bk e => P (.nx e)
  | o => P o
section
variable {K : PySem.W.Frag} {B : Hp} {W : WX} {env : Env} {t u : TS} {te ta tb : TE} {c : TT} {P P' : Out → Prop} {d : D} {o : Ow} {i j : Nat}
theorem sx_weak (h : Sx K B W t env P') (k : ∀ o, P' o → P o) : Sx K B W t env P := fun H0 F0 F H σ R D q => h H0 F0 F H σ R D fun o p => q o (k o p)
theorem sx_seq (h : Sx K B W t env (sq K B W u P)) : Sx K B W (tSeq t u) env P := fun H0 F0 F H σ R D q => by
  refine h H0 F0 F H σ R { D with nx := u D } fun o p => ?_
  cases o with
  | nx e => exact fun F' H' σ' R' => (show Sx K B W u e P from p) H0 F0 F' H' σ' R' D q
  | rt r e => cases r <;> exact q _ p
  | bk e => exact q _ p
  | ct e => exact q _ p
  | ex C e => exact q _ p
theorem sx_next (p : P (.nx env)) : Sx K B W tNext env P := fun H0 F0 F H σ R D q => q _ p F H σ R
theorem sx_brk (p : P (.bk env)) : Sx K B W tBreak env P := fun H0 F0 F H σ R D q => q _ p F H σ R
theorem sx_cont (p : P (.ct env)) : Sx K B W tCont env P := fun H0 F0 F H σ R D q => q _ p F H σ R
theorem sx_asg (h : Ev K B te env (.im d)) (p : P (.nx (env.set i (.im d)))) : Sx K B W (tAsg te (gName i)) env P := fun H0 F0 F H σ R D q =>
  h F H σ R.e _ fun v F' H' g r => q _ p F' H' _ ((R.step g).setI r)
theorem sx_asgW (h : Ev K B te env (.nw o)) (p : P (.nx (env.set i (.ow o)))) : Sx K B W (tAsg te (gName i)) env P := fun H0 F0 F H σ R D q =>
  h F H σ R.e _ fun v F' H' g r => q _ p F' H' _ (R.setW g r)
theorem sx_asgB {o : Ob} (h : Ev K B te env (.br o)) (p : P (.nx (env.set i (.br o)))) : Sx K B W (tAsg te (gName i)) env P := fun H0 F0 F H σ R D q =>
  h F H σ R.e _ fun v F' H' g r => q _ p F' H' _ ((R.step g).setB r)
theorem sx_drop {r : Vl} (h : Ev K B te env r) (p : P (.nx env)) : Sx K B W (tDrop te) env P := fun H0 F0 F H σ R D q =>
  h F H σ R.e _ fun v F' H' g _ => q _ p F' H' _ (R.step g)
theorem sx_ret (h : Ev K B te env (.im d)) (p : P (.rt (.im d) env)) : Sx K B W (tRet te) env P := fun H0 F0 F H σ R D q =>
  h F H σ R.e _ fun v F' H' g r => q _ p F' H' σ v (R.step g) r
theorem sx_retW (h : Ev K B te env (.nw o)) (p : P (.rt (.nw o) env)) : Sx K B W (tRet te) env P := fun H0 F0 F H σ R D q =>
  h F H σ R.e _ fun v F' H' g r => by
    obtain ⟨Os, R⟩ := R
    exact q _ p F' H' v (R.gr.trans g) (r.back R.gr.mo)
/-- return x, x a slot of one's own -/
theorem sx_retO (h : env[i]? = some (.ow o)) (p : P (.rt (.nw o) env)) : Sx K B W (tRet (tVar i)) env P := fun H0 F0 F H σ R D q => by
  obtain ⟨Os, R⟩ := R
  obtain ⟨v, e, r⟩ := R.sl i _ h
  exact ⟨v, e, q _ p F H v R.gr ⟨Os i, R.oh i, R.of i, R.oz i, r⟩⟩
theorem sx_retN (p : P (.rt (.im .non) env)) : Sx K B W tRetN env P := fun H0 F0 F H σ R D q => q _ p F H σ .non R .non
theorem sx_if {b : Bool} (h : EvT K B c env b) (h1 : b = true → Sx K B W t env P) (h2 : b = false → Sx K B W u env P) : Sx K B W (tIfS c t u) env P := fun H0 F0 F H σ R D q =>
  h F H σ R.e _ fun F' H' g => by
    cases b with
    | true => exact h1 rfl H0 F0 F' H' σ (R.step g) D q
    | false => exact h2 rfl H0 F0 F' H' σ (R.step g) D q
theorem sx_freeze (h : env[i]? = some (.ow (oM d))) (k : Sx K B W t (env.set i (.im d)) P) : Sx K B W t env P := fun H0 F0 F H σ R D q =>
  let ⟨F', R'⟩ := R.freeze h
  k H0 F0 F' H σ R' D q
theorem sx_forget (i : Nat) (k : Sx K B W t (env.set i .un) P) : Sx K B W t env P := fun H0 F0 F H σ R D q => k H0 F0 F H σ R.drop D q
theorem sx_while (Inv : Nat → Env → Prop) (h0 : ∃ m, Inv m env)
    (hs : ∀ m e, Inv m e → ∃ b, EvT K B c e b ∧ (b = true → Sx K B W t e (lp (fun e' => ∃ m', m' < m ∧ Inv m' e') P)) ∧ (b = false → P (.nx e))) : Sx K B W (tWhile c t) env P := fun H0 F0 F H σ R D q => by
  refine ⟨fun m σ' H' => ∃ e F', Inv m e ∧ RelS K B H0 F0 F' H' σ' e, let ⟨m, i⟩ := h0; ⟨m, env, F, i, R⟩, fun m σ1 H1 ⟨e, F1, i1, R1⟩ => ?_⟩
  obtain ⟨b, hc, ht, hf⟩ := hs m e i1
  refine hc F1 H1 σ1 R1.e _ fun F2 H2 g2 => ?_
  cases b with
  | true =>
    refine ⟨fun σ' H' => ∃ m', m' < m ∧ ∃ e F', Inv m' e ∧ RelS K B H0 F0 F' H' σ' e, fun σ' H' ⟨m', l, z⟩ => ⟨m', l, z⟩, ?_⟩
    refine ht rfl H0 F0 F2 H2 σ1 (R1.step g2) _ fun o p => ?_
    cases o with
    | nx e' => obtain ⟨m', l, i'⟩ := p; exact fun F' H' σ' R' => ⟨m', l, e', F', i', R'⟩
    | ct e' => obtain ⟨m', l, i'⟩ := p; exact fun F' H' σ' R' => ⟨m', l, e', F', i', R'⟩
    | bk e' => exact q _ (show P (.nx e') from p)
    | rt r e => cases r <;> exact q _ p
    | ex C e => exact q _ p
  | false => exact q _ (hf rfl) F2 H2 σ1 (R1.step g2)
end

/-! ### what is walked -/
/-- the items' values stand for data, the walk is told: while what H' knows is kept -/
def IterI (K : PySem.W.Frag) (wi : TI) (σ : L2.St) (F H : Hp) (ds : List D) : Prop :=
  ∀ R : It → Hp → Prop, (∀ (J : It) (F' H' : Hp) (G : Hp → Prop) (Y : Nat → Hp → V → Hp → Prop), Gr F F' H H' → Walk J ds.length G Y → (∀ H2, Kn F' H2 → (∀ a u, NT u → H' a = some u → H2 a = some u) → G H2) →
    (∀ i H1 x H2, i < ds.length → Y i H1 x H2 → ∀ F1, Kn F1 H1 → (∀ a u, NT u → F' a = some u → F1 a = some u) → ∃ F2 d, Gr F1 F2 H1 H2 ∧ ds[i]? = some d ∧ Rp K F2 x d) → R J H') → wi σ H R
/-- .. while what F' knows is kept -/
def IterF (K : PySem.W.Frag) (wi : TI) (σ : L2.St) (F H : Hp) (ds : List D) : Prop :=
  ∀ R : It → Hp → Prop, (∀ (J : It) (F' H' : Hp) (G : Hp → Prop) (Y : Nat → Hp → V → Hp → Prop), Gr F F' H H' → Walk J ds.length G Y → (∀ H2, Kn F' H2 → G H2) →
    (∀ i H1 x H2, i < ds.length → Y i H1 x H2 → ∀ F1, Kn F1 H1 → (∀ a u, NT u → F' a = some u → F1 a = some u) → ∃ F2 d, Gr F1 F2 H1 H2 ∧ ds[i]? = some d ∧ Rp K F2 x d) → R J H') → wi σ H R
def EvI (K : PySem.W.Frag) (B : Hp) (wi : TI) (env : Env) (ds : List D) : Prop := ∀ F H σ, RelE K B F H σ env → IterI K wi σ F H ds
def EvF (K : PySem.W.Frag) (B : Hp) (wi : TI) (env : Env) (ds : List D) : Prop := ∀ F H σ, RelE K B F H σ env → IterF K wi σ F H ds
/-- a target: it takes an item d apart into ds, at the slots js -/
def setS : L2.St → List Nat → List V → L2.St
  | σ, j :: js, v :: vs => setS (σ.set j (some v)) js vs
  | σ, _, _ => σ
def setD : Env → List Nat → List D → Env
  | e, j :: js, d :: ds => setD (e.set j (.im d)) js ds
  | e, _, _ => e
def EvG (K : PySem.W.Frag) (g : TG) (js : List Nat) (d : D) (ds : List D) : Prop :=
  ∀ F H v, Kn F H → Rp K F v d → ∃ vs, RpL K F vs ds ∧ ∀ (σ : L2.St) (Q : L2.St → Hp → Prop), Q (setS σ js vs) H → g v σ H Q
section
variable {K : PySem.W.Frag} {B H0 F0 F H : Hp} {σ : L2.St} {env : Env} {d : D}
theorem EvF.i {wi : TI} {ds : List D} (h : EvF K B wi env ds) : EvI K B wi env ds := fun F H σ R Q q => h F H σ R Q fun J F' H' G Y g w s y => q J F' H' G Y g w (fun H2 k _ => s H2 k) y
theorem RelS.sets : ∀ {js : List Nat} {vs : List V} {ds : List D} {σ : L2.St} {env : Env}, RelS K B H0 F0 F H σ env → RpL K F vs ds → RelS K B H0 F0 F H (setS σ js vs) (setD env js ds)
  | [], _, _, _, _, R, .nil => R
  | [], _, _, _, _, R, .cons _ _ => R
  | _ :: _, _, _, _, _, R, .nil => R
  | j :: js, _, _, _, _, R, .cons a b => RelS.sets (js := js) (R.setI a) b
theorem RelE.setI {v : V} {i : Nat} (R : RelE K B F H σ env) (r : Rp K F v d) : RelE K B F H (σ.set i (some v)) (env.set i (.im d)) := by
  refine ⟨R.kn, R.bn, by rw [List.length_set, List.length_set]; exact R.len, fun j s e => ?_⟩
  by_cases q : j = i
  · subst q
    obtain ⟨rfl, hi⟩ := get_set_self e
    exact ⟨v, List.getElem?_set_self (by rw [R.len]; exact hi), r⟩
  · rw [List.getElem?_set_ne (Ne.symm q)] at e
    rw [List.getElem?_set_ne (Ne.symm q)]
    exact R.sl j s e
theorem RelE.sets : ∀ {js : List Nat} {vs : List V} {ds : List D} {σ : L2.St} {env : Env}, RelE K B F H σ env → RpL K F vs ds → RelE K B F H (setS σ js vs) (setD env js ds)
  | [], _, _, _, _, R, .nil => R
  | [], _, _, _, _, R, .cons _ _ => R
  | _ :: _, _, _, _, _, R, .nil => R
  | j :: js, _, _, _, _, R, .cons a b => RelE.sets (js := js) (R.setI a) b
theorem eg_name {j : Nat} : EvG K (gName j) [j] d [d] := fun F H v k r => ⟨[v], .cons r .nil, fun σ Q q => q⟩
theorem eg_two {i j : Nat} {a b : D} : EvG K (gTup K 2 (gCons (gName i) (gCons (gName j) gNil))) [i, j] (.tup [a, b]) [a, b] := fun F H v k r => by
  cases r with
  | tup q r =>
    cases r with
    | cons r1 r =>
      cases r with
      | cons r2 r =>
        cases r
        exact ⟨_, .cons r1 (.cons r2 .nil), fun σ Q z => ⟨_, _, rfl, k.sqT q, rfl, _, _, rfl, _, _, rfl, rfl, z⟩⟩
theorem eg_three {i j l : Nat} {a b c : D} : EvG K (gTup K 3 (gCons (gName i) (gCons (gName j) (gCons (gName l) gNil)))) [i, j, l] (.tup [a, b, c]) [a, b, c] := fun F H v k r => by
  cases r with
  | tup q r =>
    cases r with
    | cons r1 r =>
      cases r with
      | cons r2 r =>
        cases r with
        | cons r3 r =>
          cases r
          exact ⟨_, .cons r1 (.cons r2 (.cons r3 .nil)), fun σ Q z => ⟨_, _, rfl, k.sqT q, rfl, _, _, rfl, _, _, rfl, _, _, rfl, rfl, z⟩⟩
theorem sx_asgG {W : WX} {P : Out → Prop} {te : TE} {g : TG} {js : List Nat} {ds : List D} (h : Ev K B te env (.im d)) (hg : EvG K g js d ds) (p : P (.nx (setD env js ds))) : Sx K B W (tAsg te g) env P := fun H0 F0 F H σ R D q =>
  h F H σ R.e _ fun v F' H' gr r => by
    obtain ⟨vs, rv, k⟩ := hg F' H' v gr.kn r
    exact k σ _ (q _ p F' H' _ ((R.step gr).sets rv))
end
/-! ### a new entry within a def: what is not one's own is from now on what stood ahead -/
theorem RelS.enter {K : PySem.W.Frag} {B H0 F0 F H : Hp} {σ : L2.St} {env : Env} (R : RelS K B H0 F0 F H σ env) : ∃ H1, Gr F0 F H0 H1 ∧ RelS K B H1 F F H σ env ∧ (∀ a u, H1 a = some u → H a = some u) ∧ ∀ a u, NT u → F a = some u ∨ H0 a = some u → H1 a = H a := by
  obtain ⟨Os, R⟩ := R
  have cl : ∀ a, Decidable (∃ i u, Os i a = some u) := fun a => Classical.propDecidable _
  generalize hH1 : (fun a => if ∃ i u, Os i a = some u then none else H a : Hp) = H1
  have out : ∀ a, (∀ i, Os i a = none) → H1 a = H a := fun a h => by
    rw [← hH1]
    exact if_neg fun ⟨i, u, e⟩ => by rw [h i] at e; cases e
  have inn : ∀ i a u, Os i a = some u → H1 a = none := fun i a u e => by
    rw [← hH1]
    exact if_pos ⟨i, u, e⟩
  have le : ∀ a u, H1 a = some u → H a = some u := fun a u e => by
    by_cases q : ∃ i u, Os i a = some u
    · obtain ⟨i, w, q⟩ := q
      rw [inn i a w q] at e
      cases e
    · rw [out a (fun i => by
        cases z : Os i a with
        | none => rfl
        | some w => exact absurd ⟨i, w, z⟩ q)] at e
      exact e
  have atF : ∀ a u, NT u → F a = some u → H1 a = H a := fun a u n e => out a fun i => (R.of i).none_of n e
  have at0 : ∀ a u, NT u → H0 a = some u → H1 a = H a := fun a u n e => out a fun i => (R.oz i).none_of n e
  have g1 : Gr F0 F H0 H1 := ⟨R.gr.ff, R.gr.fr, fun a u n e => by rw [at0 a u n e]; exact R.gr.hh a u n e, fun t => tabs_of (fun a u n e => by
    rw [out a fun i => ?_]
    · exact e
    · cases q : Os i a with
      | none => rfl
      | some w =>
        obtain ⟨q1, q2⟩ := R.oh i a w q
        rw [q1] at e
        cases e
        exact absurd q2 n) (R.gr.tb t), fun a u n e => by rw [atF a u n e]; exact R.gr.kn a u n e⟩
  exact ⟨H1, g1, ⟨Os, ⟨fun _ _ _ e => e, fun _ _ _ _ e => e, fun a u _ e => le a u e, fun t => tabs_of (fun a u _ e => le a u e) t, R.gr.kn⟩, R.bn.step g1, R.len, R.sl, R.oo, R.of, fun i a u e => Fr.of (inn i a u e), R.oh⟩, le, fun a u n e => e.elim (atF a u n) (at0 a u n)⟩
section
variable {K : PySem.W.Frag} {B H0 F0 H1 F1 F H : Hp} {σ : L2.St} {env : Env} {W : WX}
theorem Off.anti {O : Hp} (g : Mo H0 H1) (h : Off O H1) : Off O H0 := fun a u e => g a (h a u e)
theorem RelS.leave (g : Gr F0 F1 H0 H1) (b : Bn B H0) (R : RelS K B H1 F1 F H σ env) : RelS K B H0 F0 F H σ env := by
  obtain ⟨Os, R⟩ := R
  exact ⟨Os, g.trans R.gr, b, R.len, R.sl, R.oo, R.of, fun i => (R.oz i).anti g.mo, R.oh⟩
theorem Cont.leave {D : Ends} (g : Gr F0 F1 H0 H1) (b : Bn B H0) : ∀ {o : Out}, Cont K B W H0 F0 D o → Cont K B W H1 F1 D o
  | .nx e, h => fun F H σ R => h F H σ (R.leave g b)
  | .bk e, h => fun F H σ R => h F H σ (R.leave g b)
  | .ct e, h => fun F H σ R => h F H σ (R.leave g b)
  | .rt (.im d) e, h => fun F H σ v R r => h F H σ v (R.leave g b) r
  | .rt (.nw o) _, h => fun F H v k r => h F H v (g.trans k) (r.back g.mo)
  | .rt (.lo o) _, h => h
  | .rt (.br o) _, h => h
  | .ex C e, h => fun F H σ R => h F H σ (R.leave g b)
end
section
variable {K : PySem.W.Frag} {B : Hp} {env : Env} {W : WX} {P : Out → Prop}
/-- for over what F keeps -/
theorem sx_for {wi : TI} {g : TG} {js : List Nat} {tb : TS} {ds : List D} (ts : D → List D) (h : EvF K B wi env ds) (hg : ∀ d, d ∈ ds → EvG K g js d (ts d)) (Inv : Nat → Env → Prop) (h0 : Inv 0 env)
    (hs : ∀ i d e, ds[i]? = some d → Inv i e → Sx K B W tb (setD e js (ts d)) (lp (Inv (i + 1)) P)) (hd : ∀ e, Inv ds.length e → P (.nx e)) : Sx K B W (tFor wi g tb) env P := fun H0 F0 F H σ R D q => by
  refine h F H σ R.e _ fun J F' H' G Y gr w hG hY => ?_
  have bn : Bn B H0 := let ⟨_, R⟩ := R; R.bn
  obtain ⟨H1, g1, R1, _⟩ := (R.step gr).enter
  refine for_it w (fun i σ1 H2 => ∃ e F1, Inv i e ∧ RelS K B H1 F' F1 H2 σ1 e) ⟨env, F', h0, R1⟩ ?_ ?_ ?_
  · intro i σ1 H2 _ ⟨e, F1, _, R2⟩
    obtain ⟨_, R2⟩ := R2
    exact hG H2 (R2.gr.fk.trans R2.gr.kn)
  · intro i x σ1 H2 H3 hi ⟨e, F1, i1, R2⟩ y
    have k : ∀ a u, NT u → F' a = some u → F1 a = some u := let ⟨_, R2⟩ := R2; R2.gr.ff
    obtain ⟨F2, d, g2, e2, r2⟩ := hY i H2 x H3 hi y F1 R2.e.kn k
    obtain ⟨vs, rv, kg⟩ := hg d (List.mem_of_getElem? e2) F2 H3 x g2.kn r2
    refine kg σ1 _ ?_
    refine hs i d e e2 i1 H1 F' F2 H3 _ ((R2.step g2).sets rv) _ fun o p => ?_
    cases o with
    | nx e' => exact fun F3 H4 σ3 R3 => ⟨e', F3, p, R3⟩
    | ct e' => exact fun F3 H4 σ3 R3 => ⟨e', F3, p, R3⟩
    | bk e' => exact fun F3 H4 σ3 R3 => q _ (show P (.nx e') from p) F3 H4 σ3 (R3.leave g1 bn)
    | rt r e => cases r <;> exact (q _ p).leave g1 bn
    | ex C e => exact (q (.ex C e) p).leave g1 bn
  · intro σ1 H2 ⟨e, F1, i1, R2⟩
    exact q _ (hd e i1) F1 H2 σ1 (R2.leave g1 bn)

/-! ### walks over data -/
theorem ef_list {tl : TE} {ds : List D} (h : Ev K B tl env (.im (.lst ds))) : EvF K B (iList K tl) env ds := fun F H σ R Q q =>
  h F H σ R _ fun v F' H' g r => by
    obtain ⟨a, xs, rfl, e, r⟩ := Rp.inv_lst r
    refine ⟨a, rfl, ⟨xs, .inl (.inl (g.kn.lst e))⟩, ?_⟩
    have w : Walk (Itl K a) ds.length (fun H => SqL K H a xs) (YAt xs) := by
      rw [← r.length]
      exact walk_list
    refine q _ F' H' _ _ g w (fun H2 k => .inl (.inl (k.lst e))) fun i H1 x H2 hi y F1 k ff => ?_
    obtain ⟨rfl, hx⟩ := y
    obtain ⟨d, hd, rd⟩ := r.getV hx
    exact ⟨F1, d, Gr.refl k, hd, rd.mono (.of ff)⟩
theorem ef_tup {tl : TE} {ds : List D} (h : Ev K B tl env (.im (.tup ds))) : EvF K B (iTup K tl) env ds := fun F H σ R Q q =>
  h F H σ R _ fun v F' H' g r => by
    obtain ⟨a, xs, rfl, e, r⟩ := Rp.inv_tup r
    refine ⟨a, rfl, ⟨xs, g.kn.sqT e⟩, ?_⟩
    have w : Walk (Itt K a) ds.length (fun H => SqT K H a xs) (YAt xs) := by
      rw [← r.length]
      exact walk_tup
    refine q _ F' H' _ _ g w (fun H2 k => k.sqT e) fun i H1 x H2 hi y F1 k ff => ?_
    obtain ⟨rfl, hx⟩ := y
    obtain ⟨d, hd, rd⟩ := r.getV hx
    exact ⟨F1, d, Gr.refl k, hd, rd.mono (.of ff)⟩
/-- a list that is only looked at -/
theorem ei_list {tl : TE} {ds : List D} (h : Ev K B tl env (.ob (.lst ds))) : EvI K B (iList K tl) env ds := fun F H σ R Q q =>
  h F H σ R _ fun v F' H' g r => by
    obtain ⟨a, xs, rfl, e, r⟩ := r
    refine ⟨a, rfl, ⟨xs, .inl (.inl e)⟩, ?_⟩
    have w : Walk (Itl K a) ds.length (fun H => SqL K H a xs) (YAt xs) := by
      rw [← r.length]
      exact walk_list
    refine q _ F' H' _ _ g w (fun H2 _ k => .inl (.inl (k _ _ nt_lst e))) fun i H1 x H2 hi y F1 k ff => ?_
    obtain ⟨rfl, hx⟩ := y
    obtain ⟨d, hd, rd⟩ := r.getV hx
    exact ⟨F1, d, Gr.refl k, hd, rd.mono (.of ff)⟩
theorem ef_range1 {ta : TA} {n : Nat} {j : Int} (h : EvA K B ta env [.im (.int j)]) (h1 : -(2 ^ 62) ≤ j) (h2 : j < 2 ^ 62) (hn : j.toNat = n) : EvF K B (iRng1 ta) env ((List.range n).map fun i : Nat => .int i) := fun F H σ R Q q =>
  h F H σ R _ fun vs F' H' g r => by
    cases r with
    | cons r1 r =>
      cases r
      have r1 : Rp K F' _ (.int j) := r1
      cases r1
      refine ⟨j, rfl, h1, h2, ?_⟩
      rw [hn]
      have w : Walk (Itr 0 n) ((List.range n).map fun i : Nat => D.int i).length (fun _ => True) (YFn fun i => .int (0 + i)) := by
        rw [List.length_map, List.length_range]
        exact walk_range
      refine q _ F' H' _ _ g w (fun H2 k => trivial) fun i H1 x H2 hi y F1 k ff => ?_
      obtain ⟨rfl, rfl⟩ := y
      rw [List.length_map, List.length_range] at hi
      refine ⟨F1, .int i, Gr.refl k, by simp [hi], ?_⟩
      show Rp K F1 (V.int (0 + (i : Int))) (D.int i)
      rw [Int.zero_add]
      exact .int _
theorem ef_range2 {ta : TA} {n : Nat} {i0 j : Int} (h : EvA K B ta env [.im (.int i0), .im (.int j)]) (hb : -(2 ^ 62) ≤ i0 ∧ i0 < 2 ^ 62 ∧ -(2 ^ 62) ≤ j ∧ j < 2 ^ 62) (hn : (j - i0).toNat = n) : EvF K B (iRng2 ta) env ((List.range n).map fun i : Nat => .int (i0 + i)) := fun F H σ R Q q =>
  h F H σ R _ fun vs F' H' g r => by
    cases r with
    | cons r1 r =>
      cases r with
      | cons r2 r =>
        cases r
        have r1 : Rp K F' _ (.int i0) := r1
        have r2 : Rp K F' _ (.int j) := r2
        cases r1
        cases r2
        refine ⟨i0, j, rfl, hb, ?_⟩
        rw [hn]
        have w : Walk (Itr i0 n) ((List.range n).map fun i : Nat => D.int (i0 + i)).length (fun _ => True) (YFn fun i => .int (i0 + i)) := by
          rw [List.length_map, List.length_range]
          exact walk_range
        refine q _ F' H' _ _ g w (fun H2 k => trivial) fun i H1 x H2 hi y F1 k ff => ?_
        obtain ⟨rfl, rfl⟩ := y
        rw [List.length_map, List.length_range] at hi
        exact ⟨F1, .int (i0 + i), Gr.refl k, by simp [hi], .int _⟩
theorem ef_range3 {ta : TA} {n : Nat} {i0 j c : Int} (h : EvA K B ta env [.im (.int i0), .im (.int j), .im (.int c)]) (hr : RgC i0 j c n) : EvF K B (iRng3 ta) env ((List.range n).map fun i : Nat => .int (i0 + (i : Nat) * c)) := fun F H σ R Q q =>
  h F H σ R _ fun vs F' H' g r => by
    cases r with
    | cons r1 r =>
      cases r with
      | cons r2 r =>
        cases r with
        | cons r3 r =>
          cases r
          have r1 : Rp K F' _ (.int i0) := r1
          have r2 : Rp K F' _ (.int j) := r2
          have r3 : Rp K F' _ (.int c) := r3
          cases r1
          cases r2
          cases r3
          refine ⟨i0, j, c, n, rfl, hr, ?_⟩
          have w : Walk (Itc i0 c n) ((List.range n).map fun i : Nat => D.int (i0 + (i : Nat) * c)).length (fun _ => True) (YFn fun i => .int (i0 + (i : Nat) * c)) := by
            rw [List.length_map, List.length_range]
            exact walk_rangeC
          refine q _ F' H' _ _ g w (fun H2 k => trivial) fun i H1 x H2 hi y F1 k ff => ?_
          obtain ⟨rfl, rfl⟩ := y
          rw [List.length_map, List.length_range] at hi
          exact ⟨F1, .int (i0 + (i : Nat) * c), Gr.refl k, by simp [hi], .int _⟩
/-- the signs of a text -/
def sign (c : Nat) : Str := ⟨#[c]⟩
theorem ef_str {te : TE} {s : Str} (h : Ev K B te env (.im (.str s))) : EvF K B (iStr te) env (s.cps.toList.map fun c => .str (sign c)) := fun F H σ R Q q =>
  h F H σ R _ fun v F' H' g r => by
    have r : Rp K F' v (.str s) := r
    cases r
    refine ⟨s, rfl, ?_⟩
    have w : Walk (Its s) (s.cps.toList.map fun c => D.str (sign c)).length (fun _ => True) (fun i H v H' => H' = H ∧ ∃ c, s.cps[i]? = some c ∧ v = .str ⟨#[c]⟩) := by
      rw [List.length_map, Array.length_toList]
      exact walk_str
    refine q _ F' H' _ _ g w (fun H2 k => trivial) fun i H1 x H2 hi y F1 k ff => ?_
    obtain ⟨rfl, c, hc, rfl⟩ := y
    exact ⟨F1, .str (sign c), Gr.refl k, by rw [List.getElem?_map, Array.getElem?_toList, hc] <;> rfl, .str _⟩
/-- enumerate(a frozen list) -/
theorem ef_enum {ta : TA} {ds : List D} (h : EvA K B ta env [.im (.lst ds)]) : EvF K B (iEnum K ta) env (ds.mapIdx fun i d => .tup [.int (i : Nat), d]) := fun F H σ R Q q =>
  h F H σ R _ fun vs F' H' g r => by
    cases r with
    | cons r1 r =>
      cases r
      obtain ⟨a, xs, rfl, e, r⟩ := Rp.inv_lst r1
      · refine ⟨a, xs, rfl, .inl (.inl (g.kn.lst e)), ?_⟩
        have w : Walk (Ite K a) (ds.mapIdx fun i d => D.tup [.int (i : Nat), d]).length (fun H => SqL K H a xs) (YPair (fun i => some (.int (i : Nat))) (fun i => xs[i]?)) := by
          rw [List.length_mapIdx, ← r.length]
          exact walk_enum
        refine q _ F' H' _ _ g w (fun H2 k => .inl (.inl (k.lst e))) fun i H1 x H2 hi y F1 k ff => ?_
        obtain ⟨T, x1, y1, rfl, hT, rfl, e1, e2⟩ := y
        cases e1
        obtain ⟨d, hd, rd⟩ := r.getV e2
        refine ⟨_, .tup [.int (i : Nat), d], Gr.newF k hT, by rw [List.getElem?_mapIdx, hd] <;> rfl, .tup (.inl (.inl upd_same)) (.cons (.int _) (.cons (rd.mono ?_) .nil))⟩
        exact (Kn.of ff).trans (Gr.newF k hT).fk

/-! ### comprehensions -/
def cell (D : Addr) (o : HO) : Hp := upd (fun _ => none) D o
theorem of_cell {D a : Addr} {o u : HO} (h : cell D o a = some u) : a = D ∧ u = o := by
  unfold cell at h
  by_cases z : a = D
  · rw [z, upd_same] at h
    exact ⟨z, (Option.some.inj h).symm⟩
  · rw [upd_ne z] at h
    cases h
def wipeE (e : Env) : List Nat → Env
  | [] => e
  | v :: vs => (wipeE e vs).set v .un
theorem wipeE_length (e : Env) : ∀ vs, (wipeE e vs).length = e.length
  | [] => rfl
  | v :: vs => by unfold wipeE; rw [List.length_set, wipeE_length e vs]
theorem RelE.wipe {F H : Hp} {σ : L2.St} {env : Env} (R : RelE K B F H σ env) : ∀ vs : List Nat, RelE K B F H (L2.wipe σ vs) (wipeE env vs)
  | [] => R
  | v :: vs => by
    have R' := RelE.wipe R vs
    refine ⟨R.kn, R.bn, by rw [wipe_length, wipeE_length]; exact R.len, fun j s e => ?_⟩
    unfold wipeE at e
    unfold L2.wipe
    by_cases q : j = v
    · subst q
      obtain ⟨rfl, _⟩ := get_set_self e
      trivial
    · rw [List.getElem?_set_ne (Ne.symm q)] at e
      rw [List.getElem?_set_ne (Ne.symm q)]
      exact R'.sl j s e
theorem wipe_set {σ : L2.St} {v : Option V} {j : Nat} : ∀ {vs : List Nat}, j ∈ vs → L2.wipe (σ.set j v) vs = L2.wipe σ vs
  | w :: vs, h => by
    unfold L2.wipe
    by_cases q : j = w
    · subst q
      by_cases p : j ∈ vs
      · rw [wipe_set p]
      · have e : ∀ us : List Nat, j ∉ us → L2.wipe (σ.set j v) us = (L2.wipe σ us).set j v := by
          intro us
          induction us with
          | nil => intro _; rfl
          | cons u us ih =>
            intro hu
            have h1 : j ≠ u := fun z => hu (by rw [z]; exact List.mem_cons_self)
            unfold L2.wipe
            rw [ih fun z => hu (List.mem_cons_of_mem _ z), List.set_comm _ _ h1]
        rw [e vs p, List.set_set]
    · rw [wipe_set (List.mem_of_ne_of_mem q h)]
theorem wipe_setS : ∀ {js : List Nat} {us : List V} {σ : L2.St} {vs : List Nat}, (∀ j ∈ js, j ∈ vs) → L2.wipe (setS σ js us) vs = L2.wipe σ vs
  | [], _, _, _, _ => rfl
  | _ :: _, [], _, _, _ => rfl
  | j :: js, u :: us, σ, vs, h => by
    show L2.wipe (setS (σ.set j (some u)) js us) vs = _
    rw [wipe_setS fun k hk => h k (List.mem_cons_of_mem _ hk), wipe_set (h j List.mem_cons_self)]
theorem wipe_wipe {σ : L2.St} (vs : List Nat) : L2.wipe (L2.wipe σ vs) vs = L2.wipe σ vs := by
  have key : ∀ us : List Nat, (∀ u ∈ us, u ∈ vs) → L2.wipe (L2.wipe σ us) vs = L2.wipe σ vs := by
    intro us
    induction us with
    | nil => intro _; rfl
    | cons u us ih =>
      intro h
      show L2.wipe ((L2.wipe σ us).set u none) vs = _
      rw [wipe_set (h u List.mem_cons_self), ih fun k hk => h k (List.mem_cons_of_mem _ hk)]
  exact key vs fun _ h => h
/-- the reading of a comprehension at a state -/
theorem lc_at {α : Type} {F H : Hp} {σ : L2.St} {wi : TI} {g : TG} {tt : TT} {te : TE} {vs js : List Nat} {xs : List α} {enc : α → D} (ts : α → List D) (p : α → Bool) (f : α → D) (R : RelE K B F H σ env) (hi : IterI K wi σ F H (xs.map enc))
    (hg : ∀ x, x ∈ xs → EvG K g js (enc x) (ts x)) (hj : ∀ j ∈ js, j ∈ vs) (ht : ∀ x, x ∈ xs → EvT K B tt (setD (wipeE env vs) js (ts x)) (p x)) (he : ∀ x, x ∈ xs → p x = true → Ev K B te (setD (wipeE env vs) js (ts x)) (.im (f x)))
    (hl : xs.length ≤ sizeLine) {Q : VK} (q : ∀ v F' H', Gr F F' H H' → VlOk K B H F' H' v (.nw (oM (.lst ((xs.filter p).map f)))) → Q v H') : tLc wi g tt te vs σ H Q := by
  refine hi _ fun J F' H' G Y gr w hG hY => ?_
  intro D hD
  have g0 : Gr F' F' H' (upd H' D (.lst [])) := Gr.new gr.kn hD
  have fD : Fr F' D := gr.kn.free hD
  refine lc_it w (fun i Hc => ∃ (Fi : Hp) (acc : List V), Gr F' Fi H' Hc ∧ Fr Fi D ∧ Hc D = some (.lst acc) ∧ acc.length ≤ i ∧ RpL K Fi acc (((xs.take i).filter p).map f)) ⟨F', [], g0, fD, upd_same, Nat.le_refl _, .nil⟩ ?_ ?_ ?_
  · intro i Hc _ ⟨Fi, acc, gi, _⟩
    exact hG Hc (gi.fk.trans gi.kn) gi.hh
  · intro i x Hc Hd hin ⟨Fi, acc, gi, nD, hDc, hacc, racc⟩ y
    obtain ⟨F2, d, g2, e2, r2⟩ := hY i Hc x Hd hin y Fi gi.kn gi.ff
    rw [List.getElem?_map] at e2
    obtain ⟨z, hz, rfl⟩ := Option.map_eq_some_iff.mp e2
    have hzm := List.mem_of_getElem? hz
    obtain ⟨us, ru, kg⟩ := hg z hzm F2 Hd x g2.kn r2
    refine kg _ _ ⟨by rw [wipe_setS hj, wipe_wipe], ?_⟩
    have R2 : RelE K B F2 Hd (setS (L2.wipe σ vs) js us) (setD (wipeE env vs) js (ts z)) := RelE.sets ((R.step ((gr.trans gi).trans g2)).wipe vs) ru
    refine ht z hzm F2 Hd _ R2 _ fun F3 H3 g3 => ?_
    have g13 : Gr Fi F3 Hc H3 := g2.trans g3
    have hz2 : xs.take (i + 1) = xs.take i ++ [z] := by rw [List.take_succ, hz] <;> rfl
    cases hp : p z with
    | false =>
      rw [if_neg Bool.false_ne_true]
      refine ⟨F3, acc, gi.trans g13, g13.fr D _ nt_lst hDc nD, g13.hh D _ nt_lst hDc, by omega, ?_⟩
      rw [hz2, List.filter_append, List.filter_cons, if_neg (by rw [hp]; exact Bool.false_ne_true)]
      simpa using racc.mono g13.fk
    | true =>
      rw [if_pos rfl]
      refine he z hzm hp F3 H3 _ (R2.step g3) _ fun yv F4 H4 g4 ry => ?_
      have g14 : Gr Fi F4 Hc H4 := g13.trans g4
      have n4 : Fr F4 D := g14.fr D _ nt_lst hDc nD
      refine ⟨acc, g14.hh D _ nt_lst hDc, ?_, F4, acc ++ [yv], ?_, n4, upd_same, ?_, ?_⟩
      · have : i < (xs.map enc).length := hin
        rw [List.length_map] at this
        omega
      · have g5 := gi.trans g14
        refine ⟨g5.ff, g5.fr, fun a u n e => ?_, fun t => tabs_of (fun a u n e => ?_) (g5.tb t), fun a u n e => ?_⟩
        · rw [upd_ne (ne_of_none e hD)]
          exact g5.hh a u n e
        · rw [upd_ne fun z => ?_]
          · exact e
          · rw [z, g14.hh D _ nt_lst hDc] at e
            cases e
            exact n nx_lst
        · rw [upd_ne (n4.ne n e)]
          exact g5.kn a u n e
      · rw [List.length_append, List.length_singleton]
        omega
      · rw [hz2, List.filter_append, List.filter_cons, if_pos hp, List.filter_nil, List.map_append]
        exact (racc.mono g14.fk).app (.cons ry .nil)
  · intro Hc ⟨Fi, acc, gi, nD, hDc, hacc, racc⟩
    rw [List.length_map, List.take_of_length_le (Nat.le_refl _)] at racc
    refine q _ Fi Hc (gr.trans gi) ⟨cell D (.lst acc), fun a u e => ?_, fun a u e => ?_, fun a u e => ?_, D, acc, rfl, upd_same, racc⟩
    · obtain ⟨rfl, rfl⟩ := of_cell e
      exact ⟨hDc, nx_lst⟩
    · obtain ⟨rfl, rfl⟩ := of_cell e
      exact nD
    · obtain ⟨rfl, rfl⟩ := of_cell e
      exact gr.mo _ (Fr.of hD)
theorem ev_lc {α : Type} {wi : TI} {g : TG} {tt : TT} {te : TE} {vs js : List Nat} {xs : List α} {enc : α → D} (ts : α → List D) (p : α → Bool) (f : α → D) (hi : EvI K B wi env (xs.map enc))
    (hg : ∀ x, x ∈ xs → EvG K g js (enc x) (ts x)) (hj : ∀ j ∈ js, j ∈ vs) (ht : ∀ x, x ∈ xs → EvT K B tt (setD (wipeE env vs) js (ts x)) (p x)) (he : ∀ x, x ∈ xs → p x = true → Ev K B te (setD (wipeE env vs) js (ts x)) (.im (f x)))
    (hl : xs.length ≤ sizeLine) : Ev K B (tLc wi g tt te vs) env (.nw (oM (.lst ((xs.filter p).map f)))) := fun F H σ R Q q => lc_at ts p f R (hi F H σ R) hg hj ht he hl q
theorem et_yes : EvT K B tYes env true := fun F H σ R Q q => q F H (Gr.refl R.kn)
/-- .. without a test -/
theorem ev_lcA {α : Type} {wi : TI} {g : TG} {te : TE} {vs js : List Nat} {xs : List α} {enc : α → D} (ts : α → List D) (f : α → D) (hi : EvI K B wi env (xs.map enc))
    (hg : ∀ x, x ∈ xs → EvG K g js (enc x) (ts x)) (hj : ∀ j ∈ js, j ∈ vs) (he : ∀ x, x ∈ xs → Ev K B te (setD (wipeE env vs) js (ts x)) (.im (f x)))
    (hl : xs.length ≤ sizeLine) : Ev K B (tLc wi g tYes te vs) env (.nw (oM (.lst (xs.map f)))) := by
  have h := ev_lc ts (fun _ => true) f hi hg hj (fun x _ => et_yes) (fun x hx _ => he x hx) hl
  rw [List.filter_eq_self.mpr (fun _ _ => rfl)] at h
  exact h
/-- .. over one name, with a test -/
theorem ev_lc1 {α : Type} {wi : TI} {tt : TT} {te : TE} {i : Nat} {xs : List α} {enc : α → D} (p : α → Bool) (f : α → D) (hi : EvI K B wi env (xs.map enc))
    (ht : ∀ x, x ∈ xs → EvT K B tt ((wipeE env [i]).set i (.im (enc x))) (p x)) (he : ∀ x, x ∈ xs → p x = true → Ev K B te ((wipeE env [i]).set i (.im (enc x))) (.im (f x)))
    (hl : xs.length ≤ sizeLine) : Ev K B (tLc wi (gName i) tt te [i]) env (.nw (oM (.lst ((xs.filter p).map f)))) :=
  ev_lc (js := [i]) (fun x => [enc x]) p f hi (fun _ _ => eg_name) (fun _ h => h) ht he hl
theorem ev_lcA1 {α : Type} {wi : TI} {te : TE} {i : Nat} {xs : List α} {enc : α → D} (f : α → D) (hi : EvI K B wi env (xs.map enc))
    (he : ∀ x, x ∈ xs → Ev K B te ((wipeE env [i]).set i (.im (enc x))) (.im (f x)))
    (hl : xs.length ≤ sizeLine) : Ev K B (tLc wi (gName i) tYes te [i]) env (.nw (oM (.lst (xs.map f)))) :=
  ev_lcA (js := [i]) (fun x => [enc x]) f hi (fun _ _ => eg_name) (fun _ h => h) he hl
end
end NM
/-! The operations upon data. -/
namespace NM
open PySem PySem.Spec PyProof.Rows L2
variable [Tbs]
section
variable {K : PySem.W.Frag} {B : Hp} {env : Env} {ta tb tc te : TE} {a b c r : Vl} {d e : D}
/-! ### whole numbers -/
theorem ev_int2 {g : Int → Int → V} {i j : Int} (ha : Ev K B ta env (.im (.int i))) (hb : Ev K B tb env (.im (.int j))) (hr : ∀ F, Rp K F (g i j) d) : Ev K B (tOp (rI0 g) ta tb) env (.im d) :=
  ev_op ha hb fun B F H x y k ⟨_, hx⟩ ⟨_, hy⟩ Q q => ⟨i, j, Rp.inv_int hx, Rp.inv_int hy, q _ F H (Gr.refl k) (hr F)⟩
theorem ev_int2c {C : Int → Int → Prop} {g : Int → Int → V} {i j : Int} (ha : Ev K B ta env (.im (.int i))) (hb : Ev K B tb env (.im (.int j))) (hc : C i j) (hr : ∀ F, Rp K F (g i j) d) : Ev K B (tOp (rI C g) ta tb) env (.im d) :=
  ev_op ha hb fun B F H x y k ⟨_, hx⟩ ⟨_, hy⟩ Q q => ⟨i, j, Rp.inv_int hx, Rp.inv_int hy, hc, q _ F H (Gr.refl k) (hr F)⟩
abbrev rAddI : R2 := rI0 fun i j => .int (i + j)
abbrev rSubI : R2 := rI0 fun i j => .int (i - j)
abbrev rMulI : R2 := rI CMul fun i j => .int (i * j)
abbrev rMulW : R2 := rI CMulW fun i j => .int (i * j)
abbrev rDivI : R2 := rI CDiv fun i j => .int (i / j)
abbrev rDivW : R2 := rI CDivW fun i j => .int (i / j)
abbrev rModI : R2 := rI (fun _ j => 0 < j) fun i j => .int (i % j)
abbrev rPowI : R2 := rI CPow fun i j => .int (i ^ j.toNat)
abbrev rLtI : R2 := rI0 fun i j => .bl (decide (i < j))
abbrev rLeI : R2 := rI0 fun i j => .bl (decide (i ≤ j))
abbrev rGtI : R2 := rI0 fun i j => .bl (decide (j < i))
abbrev rGeI : R2 := rI0 fun i j => .bl (decide (j ≤ i))
theorem ev_add {i j : Int} (ha : Ev K B ta env (.im (.int i))) (hb : Ev K B tb env (.im (.int j))) : Ev K B (tOp rAddI ta tb) env (.im (.int (i + j))) := ev_int2 ha hb fun _ => .int _
theorem ev_sub {i j : Int} (ha : Ev K B ta env (.im (.int i))) (hb : Ev K B tb env (.im (.int j))) : Ev K B (tOp rSubI ta tb) env (.im (.int (i - j))) := ev_int2 ha hb fun _ => .int _
theorem ev_mul {i j : Int} (ha : Ev K B ta env (.im (.int i))) (hb : Ev K B tb env (.im (.int j))) (hc : CMul i j) : Ev K B (tOp rMulI ta tb) env (.im (.int (i * j))) := ev_int2c ha hb hc fun _ => .int _
theorem ev_mulW {i j : Int} (ha : Ev K B ta env (.im (.int i))) (hb : Ev K B tb env (.im (.int j))) (hc : CMulW i j) : Ev K B (tOp rMulW ta tb) env (.im (.int (i * j))) := ev_int2c ha hb hc fun _ => .int _
theorem ev_div {i j : Int} (ha : Ev K B ta env (.im (.int i))) (hb : Ev K B tb env (.im (.int j))) (hc : CDiv i j) : Ev K B (tOp rDivI ta tb) env (.im (.int (i / j))) := ev_int2c ha hb hc fun _ => .int _
theorem ev_divW {i j : Int} (ha : Ev K B ta env (.im (.int i))) (hb : Ev K B tb env (.im (.int j))) (hc : CDivW i j) : Ev K B (tOp rDivW ta tb) env (.im (.int (i / j))) := ev_int2c ha hb hc fun _ => .int _
theorem ev_mod {i j : Int} (ha : Ev K B ta env (.im (.int i))) (hb : Ev K B tb env (.im (.int j))) (hc : 0 < j) : Ev K B (tOp rModI ta tb) env (.im (.int (i % j))) := ev_int2c ha hb hc fun _ => .int _
theorem ev_pow {i j : Int} (ha : Ev K B ta env (.im (.int i))) (hb : Ev K B tb env (.im (.int j))) (hc : CPow i j) : Ev K B (tOp rPowI ta tb) env (.im (.int (i ^ j.toNat))) := ev_int2c ha hb hc fun _ => .int _
theorem ev_lt {i j : Int} (ha : Ev K B ta env (.im (.int i))) (hb : Ev K B tb env (.im (.int j))) : Ev K B (tOp rLtI ta tb) env (.im (.bl (decide (i < j)))) := ev_int2 ha hb fun _ => .bl _
theorem ev_le {i j : Int} (ha : Ev K B ta env (.im (.int i))) (hb : Ev K B tb env (.im (.int j))) : Ev K B (tOp rLeI ta tb) env (.im (.bl (decide (i ≤ j)))) := ev_int2 ha hb fun _ => .bl _
theorem ev_gt {i j : Int} (ha : Ev K B ta env (.im (.int i))) (hb : Ev K B tb env (.im (.int j))) : Ev K B (tOp rGtI ta tb) env (.im (.bl (decide (j < i)))) := ev_int2 ha hb fun _ => .bl _
theorem ev_ge {i j : Int} (ha : Ev K B ta env (.im (.int i))) (hb : Ev K B tb env (.im (.int j))) : Ev K B (tOp rGeI ta tb) env (.im (.bl (decide (j ≤ i)))) := ev_int2 ha hb fun _ => .bl _
/-- lo <= x <= hi -/
theorem ev_chain {i j k : Int} (ha : Ev K B ta env (.im (.int i))) (hb : Ev K B tb env (.im (.int j))) (hc : i ≤ j → Ev K B tc env (.im (.int k))) : Ev K B (tChain rLeI rLeI ta tb tc) env (.im (.bl (decide (i ≤ j) && decide (j ≤ k)))) := fun F H σ R Q q =>
  ha F H σ R _ fun x F1 H1 g1 x1 => hb F1 H1 σ (R.step g1) _ fun y F2 H2 g2 y2 => by
    refine ⟨i, j, Rp.inv_int x1, Rp.inv_int y2, decide (i ≤ j), rfl, ?_⟩
    by_cases h : i ≤ j
    · rw [decide_eq_true h, if_pos rfl]
      refine hc h F2 H2 σ ((R.step g1).step g2) _ fun z F3 H3 g3 z3 => ⟨j, k, Rp.inv_int y2, Rp.inv_int z3, q _ F3 H3 ((g1.trans g2).trans g3) ?_⟩
      rw [decide_eq_true h, Bool.true_and]
      exact Rp.bl _
    · rw [decide_eq_false h, if_neg Bool.false_ne_true]
      refine q _ F2 H2 (g1.trans g2) ?_
      rw [decide_eq_false h, Bool.false_and]
      exact Rp.bl _
def tTestC (t : TE) : TT := tTest t
/-! ### == of numbers, of texts, is None -/
theorem ev_eqI {i j : Int} (ha : Ev K B ta env (.im (.int i))) (hb : Ev K B tb env (.im (.int j))) : Ev K B (tOp rEq ta tb) env (.im (.bl (decide (i = j)))) :=
  ev_op ha hb fun B F H x y k ⟨_, hx⟩ ⟨_, hy⟩ Q q => by
    obtain rfl := Rp.inv_int hx
    obtain rfl := Rp.inv_int hy
    refine ⟨rfl, q _ F H (Gr.refl k) ?_⟩
    have e : decide (V.int i = V.int j) = decide (i = j) := by
      by_cases z : i = j
      · subst z; simp
      · rw [decide_eq_false z, decide_eq_false fun w => z (V.int.inj w)]
    rw [e]
    exact Rp.bl _
theorem ev_neI {i j : Int} (ha : Ev K B ta env (.im (.int i))) (hb : Ev K B tb env (.im (.int j))) : Ev K B (tOp rNe ta tb) env (.im (.bl (!decide (i = j)))) :=
  ev_op ha hb fun B F H x y k ⟨_, hx⟩ ⟨_, hy⟩ Q q => by
    obtain rfl := Rp.inv_int hx
    obtain rfl := Rp.inv_int hy
    refine ⟨rfl, q _ F H (Gr.refl k) ?_⟩
    have e : decide (V.int i = V.int j) = decide (i = j) := by
      by_cases z : i = j
      · subst z; simp
      · rw [decide_eq_false z, decide_eq_false fun w => z (V.int.inj w)]
    rw [e]
    exact Rp.bl _
theorem dec_strV {i j : Str} : decide (V.str i = V.str j) = decide (i = j) := by
  by_cases z : i = j
  · subst z; simp
  · rw [decide_eq_false z, decide_eq_false fun w => z (V.str.inj w)]
theorem ev_eqS {i j : Str} (ha : Ev K B ta env (.im (.str i))) (hb : Ev K B tb env (.im (.str j))) : Ev K B (tOp rEq ta tb) env (.im (.bl (decide (i = j)))) :=
  ev_op ha hb fun B F H x y k ⟨_, hx⟩ ⟨_, hy⟩ Q q => by
    obtain rfl := Rp.inv_str hx
    obtain rfl := Rp.inv_str hy
    refine ⟨rfl, q _ F H (Gr.refl k) ?_⟩
    rw [dec_strV]
    exact Rp.bl _
theorem ev_neS {i j : Str} (ha : Ev K B ta env (.im (.str i))) (hb : Ev K B tb env (.im (.str j))) : Ev K B (tOp rNe ta tb) env (.im (.bl (!decide (i = j)))) :=
  ev_op ha hb fun B F H x y k ⟨_, hx⟩ ⟨_, hy⟩ Q q => by
    obtain rfl := Rp.inv_str hx
    obtain rfl := Rp.inv_str hy
    refine ⟨rfl, q _ F H (Gr.refl k) ?_⟩
    rw [dec_strV]
    exact Rp.bl _
abbrev rIsN : R2 := fun x y H Q => y = .non ∧ Q (.bl (decide (x = .non))) H
abbrev rNotN : R2 := fun x y H Q => y = .non ∧ Q (.bl (!decide (x = .non))) H
def isNon : D → Bool
  | .non => true
  | _ => false
theorem rp_non {F : Hp} {v : V} (h : Rp K F v d) : decide (v = .non) = isNon d := by
  cases h <;> first | rfl | exact decide_eq_false (fun z => nomatch z)
theorem ev_isN (ha : Ev K B ta env (.im d)) : Ev K B (tOp rIsN ta (tC .non)) env (.im (.bl (isNon d))) :=
  ev_op ha ev_non fun B F H x y k ⟨_, hx⟩ ⟨_, hy⟩ Q q => ⟨Rp.inv_non hy, q _ F H (Gr.refl k) (by rw [rp_non hx]; exact Rp.bl _)⟩
theorem ev_notN (ha : Ev K B ta env (.im d)) : Ev K B (tOp rNotN ta (tC .non)) env (.im (.bl (!isNon d))) :=
  ev_op ha ev_non fun B F H x y k ⟨_, hx⟩ ⟨_, hy⟩ Q q => ⟨Rp.inv_non hy, q _ F H (Gr.refl k) (by rw [rp_non hx]; exact Rp.bl _)⟩

/-! ### == of data -/
mutual
/-- data as the library has it (dicts are none of it) -/
def py : D → PyData
  | .non => .none
  | .bl b => .bool b
  | .int i => .int i
  | .str s => .str s
  | .tup ds => .tuple (pyL ds)
  | .lst ds => .list (pyL ds)
  | .dct _ => .none
def pyL : List D → List PyData
  | [] => []
  | d :: ds => py d :: pyL ds
end
/-- data of depth n at most, of numbers, texts, None -/
def Okd : Nat → D → Prop
  | _, .non => True
  | _, .int _ => True
  | _, .str s => PyData.strOk s = true
  | n + 1, .tup ds => ∀ d ∈ ds, Okd n d
  | n + 1, .lst ds => ∀ d ∈ ds, Okd n d
  | _, _ => False
theorem okd_le : ∀ {n m : Nat} {d : D}, n ≤ m → Okd n d → Okd m d
  | 0, 0, _, _, h => h
  | 0, m + 1, .non, _, h => trivial
  | 0, m + 1, .int _, _, h => trivial
  | 0, m + 1, .str _, _, h => h
  | 0, m + 1, .tup _, _, h => h.elim
  | 0, m + 1, .lst _, _, h => h.elim
  | 0, m + 1, .bl _, _, h => h.elim
  | 0, m + 1, .dct _, _, h => h.elim
  | n + 1, 0, _, l, _ => absurd l (Nat.not_succ_le_zero _)
  | n + 1, m + 1, .non, _, h => trivial
  | n + 1, m + 1, .int _, _, h => trivial
  | n + 1, m + 1, .str _, _, h => h
  | n + 1, m + 1, .tup ds, l, h => fun d hd => okd_le (Nat.le_of_succ_le_succ l) (h d hd)
  | n + 1, m + 1, .lst ds, l, h => fun d hd => okd_le (Nat.le_of_succ_le_succ l) (h d hd)
  | n + 1, m + 1, .bl _, _, h => h.elim
  | n + 1, m + 1, .dct _, _, h => h.elim
theorem okd_py : ∀ {n : Nat} {d : D}, Okd n d → (py d).canLay0 = true ∧ (py d).depth ≤ n
  | n, .non, _ => ⟨by simp [py, PyData.canLay0], by simp [py, PyData.depth]⟩
  | n, .int _, _ => ⟨by simp [py, PyData.canLay0], by simp [py, PyData.depth]⟩
  | n, .str s, h => ⟨by cases n <;> simpa [py, PyData.canLay0, Okd] using h, by simp [py, PyData.depth]⟩
  | n + 1, .tup ds, h => by
    have key : ∀ es : List D, (∀ d ∈ es, Okd n d) → PyData.canLayAll0 (pyL es) = true ∧ PyData.depthAll (pyL es) ≤ n := by
      intro es
      induction es with
      | nil => intro _; exact ⟨rfl, Nat.zero_le _⟩
      | cons e es ih =>
        intro hh
        obtain ⟨a, b⟩ := okd_py (hh e List.mem_cons_self)
        obtain ⟨c, d⟩ := ih fun x hx => hh x (List.mem_cons_of_mem _ hx)
        exact ⟨by simp [pyL, PyData.canLayAll0, a, c], by simp only [pyL, PyData.depthAll]; omega⟩
    obtain ⟨a, b⟩ := key ds h
    exact ⟨by simpa [py, PyData.canLay0] using a, by simp only [py, PyData.depth]; omega⟩
  | n + 1, .lst ds, h => by
    have key : ∀ es : List D, (∀ d ∈ es, Okd n d) → PyData.canLayAll0 (pyL es) = true ∧ PyData.depthAll (pyL es) ≤ n := by
      intro es
      induction es with
      | nil => intro _; exact ⟨rfl, Nat.zero_le _⟩
      | cons e es ih =>
        intro hh
        obtain ⟨a, b⟩ := okd_py (hh e List.mem_cons_self)
        obtain ⟨c, d⟩ := ih fun x hx => hh x (List.mem_cons_of_mem _ hx)
        exact ⟨by simp [pyL, PyData.canLayAll0, a, c], by simp only [pyL, PyData.depthAll]; omega⟩
    obtain ⟨a, b⟩ := key ds h
    exact ⟨by simpa [py, PyData.canLay0] using a, by simp only [py, PyData.depth]; omega⟩
  | 0, .tup _, h => h.elim
  | 0, .lst _, h => h.elim
  | 0, .bl _, h => h.elim
  | 0, .dct _, h => h.elim
  | n + 1, .bl _, h => h.elim
  | n + 1, .dct _, h => h.elim
/-- whether they are the same -/
noncomputable def deq (d e : D) : Bool := @decide (d = e) (Classical.propDecidable _)
theorem deq_self (d : D) : deq d d = true := @decide_eq_true _ (Classical.propDecidable _) rfl
theorem deq_ne {d e : D} (h : d ≠ e) : deq d e = false := @decide_eq_false _ (Classical.propDecidable _) h
theorem deq_iff {d e : D} : deq d e = true ↔ d = e := @decide_eq_true_iff _ (Classical.propDecidable _)
theorem deq_of {d e : D} {p : Prop} [Decidable p] (h : d = e ↔ p) : deq d e = decide p := by
  by_cases q : p
  · rw [h.mpr q, deq_self, decide_eq_true q]
  · rw [deq_ne fun z => q (h.mp z), decide_eq_false q]
theorem eqv_okd : ∀ {n m : Nat} {d e : D}, Okd n d → Okd m e → PyData.eqv (py d) (py e) = deq d e := by
  intro n
  induction n with
  | zero =>
    intro m d e hd he
    cases d <;> cases e <;> first
      | exact hd.elim
      | (cases m <;> exact he.elim)
      | (simp only [py, PyData.eqv]; first
          | exact (deq_self _).symm
          | exact Eq.symm (deq_ne (by intro z; cases z))
          | (rw [deq_of (p := _ = _) ⟨fun z => D.int.inj z, fun z => congrArg D.int z⟩]; exact Bool.beq_eq_decide_eq _ _)
          | (rw [deq_of (p := _ = _) ⟨fun z => D.str.inj z, fun z => congrArg D.str z⟩]; exact Bool.beq_eq_decide_eq _ _))
  | succ n ih =>
    intro m d e hd he
    have key : ∀ {k : Nat} {ds es : List D}, (∀ d ∈ ds, Okd n d) → (∀ e ∈ es, Okd k e) → PyData.eqvAll (pyL ds) (pyL es) = @decide (ds = es) (Classical.propDecidable _) := by
      intro k ds
      induction ds with
      | nil =>
        intro es _ _
        cases es with
        | nil => simp [pyL, PyData.eqvAll]
        | cons e es => simp [pyL, PyData.eqvAll]
      | cons d ds ihd =>
        intro es h1 h2
        cases es with
        | nil => simp [pyL, PyData.eqvAll]
        | cons e es =>
          simp only [pyL, PyData.eqvAll]
          rw [ih (h1 d List.mem_cons_self) (h2 e List.mem_cons_self), ihd (fun x hx => h1 x (List.mem_cons_of_mem _ hx)) (fun x hx => h2 x (List.mem_cons_of_mem _ hx))]
          unfold deq
          by_cases z : d = e
          · by_cases z2 : ds = es
            · simp [z, z2]
            · simp [z, z2]
          · simp [z]
    cases d <;> cases e <;> first
      | exact hd.elim
      | (cases m <;> exact he.elim)
      | (simp only [py, PyData.eqv]; first
          | exact (deq_self _).symm
          | exact Eq.symm (deq_ne (by intro z; cases z))
          | (rw [deq_of (p := _ = _) ⟨fun z => D.int.inj z, fun z => congrArg D.int z⟩]; exact Bool.beq_eq_decide_eq _ _)
          | (rw [deq_of (p := _ = _) ⟨fun z => D.str.inj z, fun z => congrArg D.str z⟩]; exact Bool.beq_eq_decide_eq _ _)
          | (cases m with
            | zero => exact he.elim
            | succ m =>
              rw [key hd he]
              unfold deq
              simp))
mutual
theorem rp_dp {F : Hp} : ∀ {n : Nat} {d : D} {v : V}, Okd n d → Rp K F v d → Dp K F v (py d)
  | _, .non, _, _, h => by rw [Rp.inv_non h]; simp only [py]; exact .non
  | _, .int _, _, _, h => by rw [Rp.inv_int h]; simp only [py]; exact .int _
  | _, .str _, _, _, h => by rw [Rp.inv_str h]; simp only [py]; exact .str _
  | n + 1, .tup ds, _, o, h => by
    obtain ⟨a, xs, rfl, q, r⟩ := Rp.inv_tup h
    simp only [py]
    exact .tup q (rpl_dp o r)
  | n + 1, .lst ds, _, o, h => by
    obtain ⟨a, xs, rfl, q, r⟩ := Rp.inv_lst h
    simp only [py]
    exact .lst (.inl (.inl q)) (rpl_dp o r)
  | 0, .tup _, _, o, _ => o.elim
  | 0, .lst _, _, o, _ => o.elim
  | 0, .bl _, _, o, _ => o.elim
  | 0, .dct _, _, o, _ => o.elim
  | n + 1, .bl _, _, o, _ => o.elim
  | n + 1, .dct _, _, o, _ => o.elim
theorem rpl_dp {F : Hp} : ∀ {n : Nat} {ds : List D} {vs : List V}, (∀ d ∈ ds, Okd n d) → RpL K F vs ds → DpAll K F vs (pyL ds)
  | _, [], _, _, h => by
    cases h
    simp only [pyL]
    exact .nil
  | n, d :: ds, _, o, h => by
    cases h with
    | cons a b =>
      simp only [pyL]
      exact .cons (rp_dp (o d List.mem_cons_self) a) (rpl_dp (fun x hx => o x (List.mem_cons_of_mem _ hx)) b)
end
mutual
theorem dp_mono {F H : Hp} (k : Kn F H) : ∀ {v : V} {d : PyData}, Dp K F v d → Dp K H v d
  | _, _, .non => .non
  | _, _, .bl b => .bl b
  | _, _, .int i => .int i
  | _, _, .str s => .str s
  | _, _, .lst q r => .lst (k.sqL q) (dpl_mono k r)
  | _, _, .tup q r => .tup (k.sqT q) (dpl_mono k r)
theorem dpl_mono {F H : Hp} (k : Kn F H) : ∀ {v : List V} {d : List PyData}, DpAll K F v d → DpAll K H v d
  | _, _, .nil => .nil
  | _, _, .cons a b => .cons (dp_mono k a) (dpl_mono k b)
end
theorem ob_dp {F H : Hp} {n : Nat} {v : V} (k : Kn F H) (o : Okd n d) (h : ObsD K F H v d) : Dp K H v (py d) := by
  cases d with
  | lst ds =>
    cases n with
    | zero => exact o.elim
    | succ n =>
      obtain ⟨a, xs, rfl, q, r⟩ := h
      simp only [py]
      exact .lst (.inl (.inl q)) (dpl_mono k (rpl_dp o r))
  | dct ds => cases n <;> exact o.elim
  | non => exact dp_mono k (rp_dp o h)
  | bl b => exact dp_mono k (rp_dp o h)
  | int b => exact dp_mono k (rp_dp o h)
  | str b => exact dp_mono k (rp_dp o h)
  | tup b => exact dp_mono k (rp_dp o h)
theorem okd_shaped {n : Nat} (h : Okd n d) (l : n ≤ 64) : SeqAt.shaped (py d) = true := by
  obtain ⟨a, b⟩ := okd_py h
  unfold SeqAt.shaped
  rw [a, decide_eq_true (Nat.le_trans b l)]
  all_goals rfl
theorem ev_eqD {n m : Nat} (ha : Ev K B ta env (.ob d)) (hb : Ev K B tb env (.ob e)) (od : Okd n d) (oe : Okd m e) (ln : n ≤ 64 := by decide) (lm : m ≤ 64 := by decide) : Ev K B (tOp (rEqD K) ta tb) env (.im (.bl (deq d e))) :=
  ev_op ha hb fun B F H x y k ⟨_, hx⟩ ⟨_, hy⟩ Q q => ⟨_, _, ob_dp k od hx, ob_dp k oe hy, okd_shaped od ln, okd_shaped oe lm, by rw [eqv_okd od oe]; exact q _ F H (Gr.refl k) (Rp.bl _)⟩
theorem ev_neD {n m : Nat} (ha : Ev K B ta env (.ob d)) (hb : Ev K B tb env (.ob e)) (od : Okd n d) (oe : Okd m e) (ln : n ≤ 64 := by decide) (lm : m ≤ 64 := by decide) : Ev K B (tOp (rNeD K) ta tb) env (.im (.bl (!deq d e))) :=
  ev_op ha hb fun B F H x y k ⟨_, hx⟩ ⟨_, hy⟩ Q q => ⟨_, _, ob_dp k od hx, ob_dp k oe hy, okd_shaped od ln, okd_shaped oe lm, by rw [eqv_okd od oe]; exact q _ F H (Gr.refl k) (Rp.bl _)⟩
end
end NM
/-! Lists, tuples, dicts, texts upon data. -/
namespace NM
open PySem PySem.Spec PyProof.Rows L2
variable [Tbs]
/-! ### dicts by texts -/
section
variable {α β : Type}
def kget (kvs : List (Str × α)) (s : Str) : Option α := (kvs.find? fun p => decide (p.1 = s)).map (·.2)
def kput (kvs : List (Str × α)) (s : Str) (a : α) : List (Str × α) :=
  if (kvs.any fun p => decide (p.1 = s)) = true then kvs.map (fun p => if p.1 = s then (p.1, a) else p) else kvs ++ [(s, a)]
def kdrop (kvs : List (Str × α)) (s : Str) : List (Str × α) := kvs.filter fun p => decide (p.1 ≠ s)
abbrev emap (f : α → β) (kvs : List (Str × α)) : List (Str × β) := kvs.map fun p => (p.1, f p.2)
theorem kget_nil {s : Str} : kget ([] : List (Str × α)) s = none := rfl
theorem kget_cons {p : Str × α} {r : List (Str × α)} {s : Str} : kget (p :: r) s = if p.1 = s then some p.2 else kget r s := by
  unfold kget
  rw [List.find?_cons]
  by_cases h : p.1 = s
  · simp [h]
  · simp [h]
theorem kget_emap (f : α → β) (kvs : List (Str × α)) (s : Str) : kget (emap f kvs) s = (kget kvs s).map f := by
  induction kvs with
  | nil => rfl
  | cons p r ih =>
    show kget ((p.1, f p.2) :: emap f r) s = _
    rw [kget_cons, kget_cons, ih]
    by_cases h : p.1 = s
    · rw [if_pos h, if_pos h]
      all_goals rfl
    · rw [if_neg h, if_neg h]
theorem kput_emap (f : α → β) (kvs : List (Str × α)) (s : Str) (a : α) : kput (emap f kvs) s (f a) = emap f (kput kvs s a) := by
  have e : (List.any (emap f kvs) fun p => decide (p.1 = s)) = (kvs.any fun p => decide (p.1 = s)) := by
    rw [List.any_map]
    all_goals rfl
  unfold kput
  rw [e]
  by_cases h : (kvs.any fun p => decide (p.1 = s)) = true
  · rw [if_pos h, if_pos h, List.map_map]
    show _ = List.map _ (List.map _ _)
    rw [List.map_map]
    refine List.map_congr_left fun p _ => ?_
    by_cases q : p.1 = s
    · simp [q]
    · simp [q]
  · rw [if_neg h, if_neg h]
    show _ = List.map _ _
    rw [List.map_append]
    all_goals rfl
theorem kdrop_emap (f : α → β) (kvs : List (Str × α)) (s : Str) : kdrop (emap f kvs) s = emap f (kdrop kvs s) := by
  unfold kdrop
  rw [List.filter_map]
  all_goals rfl
end
section
variable {K : PySem.W.Frag} {F : Hp}
theorem RpK.val : ∀ {ks : List (Key × V)} {kvs : List (Str × D)} {s : Str} {d : D}, RpK K F ks kvs → kget kvs s = some d → ∃ v, valV ks (Sum.inr s) = some v ∧ Rp K F v d
  | _, _, _, _, .nil, e => nomatch e
  | _, _, s, d, .cons (s := s') a r, e => by
    rw [kget_cons] at e
    by_cases h : s' = s
    · rw [if_pos h] at e
      cases e
      exact ⟨_, valV_pos (by show (Sum.inr s' : Key) = _; rw [h]), a⟩
    · rw [if_neg h] at e
      obtain ⟨v, h1, h2⟩ := RpK.val r e
      exact ⟨v, by rw [valV_neg (fun z => h (Sum.inr.inj z))]; exact h1, h2⟩
theorem RpK.non : ∀ {ks : List (Key × V)} {kvs : List (Str × D)} {s : Str}, RpK K F ks kvs → kget kvs s = none → valV ks (Sum.inr s) = none
  | _, _, _, .nil, e => rfl
  | _, _, s, .cons (s := s') a r, e => by
    rw [kget_cons] at e
    by_cases h : s' = s
    · rw [if_pos h] at e
      cases e
    · rw [if_neg h] at e
      rw [valV_neg (fun z => h (Sum.inr.inj z))]
      exact RpK.non r e
theorem RpK.some {ks : List (Key × V)} {kvs : List (Str × D)} (r : RpK K F ks kvs) (s : Str) : (valV ks (Sum.inr s)).isSome = (kget kvs s).isSome := by
  cases h : kget kvs s with
  | none => rw [r.non h] <;> rfl
  | some d =>
    obtain ⟨v, e, _⟩ := r.val h
    rw [e] <;> rfl
theorem RpK.any {ks : List (Key × V)} {kvs : List (Str × D)} (r : RpK K F ks kvs) (s : Str) : (ks.any fun kv => decide (kv.1 = (Sum.inr s : Key))) = (kvs.any fun p => decide (p.1 = s)) := by
  induction kvs generalizing ks with
  | nil => cases r; rfl
  | cons p kvs ih =>
    cases r with
    | cons a r =>
      rw [List.any_cons, List.any_cons, ih r]
      congr 1
      exact key_rr _ _
theorem RpK.app : ∀ {ks ls : List (Key × V)} {kvs lvs : List (Str × D)}, RpK K F ks kvs → RpK K F ls lvs → RpK K F (ks ++ ls) (kvs ++ lvs)
  | _, _, _, _, .nil, s => s
  | _, _, _, _, .cons a r, s => .cons a (RpK.app r s)
theorem RpK.put {ks : List (Key × V)} {kvs : List (Str × D)} {s : Str} {v : V} {d : D} (r : RpK K F ks kvs) (a : Rp K F v d) : RpK K F (putK ks (Sum.inr s) v) (kput kvs s d) := by
  unfold putK kput
  rw [r.any s]
  by_cases h : (kvs.any fun p => decide (p.1 = s)) = true
  · rw [if_pos h, if_pos h]
    have key : ∀ {ks : List (Key × V)} {kvs : List (Str × D)}, RpK K F ks kvs → RpK K F (ks.map fun kv => if kv.1 = (Sum.inr s : Key) then (kv.1, v) else kv) (kvs.map fun p => if p.1 = s then (p.1, d) else p) := by
      intro ks kvs r
      induction kvs generalizing ks with
      | nil => cases r; exact .nil
      | cons p kvs ih =>
        cases r with
        | cons b r =>
          rename_i s' v' ks' d'
          rw [List.map_cons, List.map_cons]
          by_cases q : s' = s
          · rw [if_pos (show ((Sum.inr s', v') : Key × V).1 = (Sum.inr s : Key) by show Sum.inr s' = _; rw [q]), if_pos (show ((s', d') : Str × D).1 = s from q)]
            exact .cons a (ih r)
          · rw [if_neg (show ¬ ((Sum.inr s', v') : Key × V).1 = (Sum.inr s : Key) from fun z => q (Sum.inr.inj z)), if_neg (show ¬ ((s', d') : Str × D).1 = s from q)]
            exact .cons b (ih r)
    exact key r
  · rw [if_neg h, if_neg h]
    exact r.app (.cons a .nil)
theorem RpK.drop {s : Str} : ∀ {ks : List (Key × V)} {kvs : List (Str × D)}, RpK K F ks kvs → RpK K F (dropK ks (Sum.inr s)) (kdrop kvs s)
  | _, _, .nil => .nil
  | _, _, .cons (s := s') (v := v') (ks := ks') (d := d') (ds := ds') a r => by
    unfold dropK kdrop
    rw [List.filter_cons, List.filter_cons]
    by_cases q : s' = s
    · rw [if_neg (by simp [q]), if_neg (by simp [q])]
      exact RpK.drop r
    · rw [if_pos (by simp [q]), if_pos (by simp [q])]
      exact .cons a (RpK.drop r)
theorem RpK.getI : ∀ {ks : List (Key × V)} {kvs : List (Str × D)} {i : Nat} {k : Key} {v : V}, RpK K F ks kvs → ks[i]? = Option.some (k, v) → ∃ s d, kvs[i]? = Option.some (s, d) ∧ k = Sum.inr s ∧ Rp K F v d
  | _, _, i, _, _, .nil, e => by simp at e
  | _, _, 0, _, _, .cons a _, e => by
    simp at e
    obtain ⟨rfl, rfl⟩ := e
    exact ⟨_, _, rfl, rfl, a⟩
  | _, _, i + 1, k, v, .cons _ t, e => by
    obtain ⟨s, d, h1, h2⟩ := RpK.getI (i := i) (k := k) (v := v) t (by simpa using e)
    exact ⟨s, d, by simpa using h1, h2⟩
theorem RpL.atI {xs : List V} {ds : List D} {i : Int} {d : D} (r : RpL K F xs ds) (h : L2.atI ds i = some d) : ∃ v, L2.atI xs i = some v ∧ Rp K F v d := by
  unfold L2.atI at h ⊢
  rw [r.length]
  cases e : ixN ds.length i with
  | none => rw [e] at h; cases h
  | some j =>
    rw [e] at h
    exact r.get h
end
section
variable {K : PySem.W.Frag} {B : Hp} {env : Env} {ta tb tc te td ty tx : TE} {t : TA} {a b c r : Vl} {d e : D} {ds es : List D} {kvs : List (Str × D)}
/-! ### displays -/
/-- the data of frozen results -/
def dsOf : List Vl → List D
  | .im d :: r => d :: dsOf r
  | _ => []
theorem ev_tup {rs : List Vl} (h : EvA K B t env rs) (e : rs = (dsOf rs).map .im := by rfl) (hl : (dsOf rs).length ≤ sizeLine := by exact Nat.le_of_ble_eq_true rfl) : Ev K B (tTup t) env (.im (.tup (dsOf rs))) := fun F H σ R Q q =>
  h F H σ R _ fun vs F' H' g r => by
    rw [e] at r
    have r := r.ims
    refine ⟨by rw [r.length]; exact hl, fun p hp => q _ _ _ (g.trans (Gr.newF g.kn hp)) (.tup (.inl (.inl upd_same)) (r.mono (Gr.newF (o := .tup vs) g.kn hp).fk))⟩
/-- a new list's cell -/
theorem nw_new {F H : Hp} {p : Addr} {xs : List V} (k : Kn F H) (hp : H p = none) (r : RpL K F xs ds) : VlOk K B H F (upd H p (.lst xs)) (.ref p) (.nw (oM (.lst ds))) :=
  ⟨cell p (.lst xs), fun a u z => by obtain ⟨rfl, rfl⟩ := of_cell z; exact ⟨upd_same, nx_lst⟩, fun a u z => by obtain ⟨rfl, rfl⟩ := of_cell z; exact k.free hp, fun a u z => by obtain ⟨rfl, rfl⟩ := of_cell z; exact Fr.of hp, p, xs, rfl, upd_same, r⟩
theorem nw_newD {F H : Hp} {p : Addr} {xs : List (Key × V)} (k : Kn F H) (hp : H p = none) (r : RpK K F xs kvs) : VlOk K B H F (upd H p (.dK xs)) (.ref p) (.nw (oM (.dct kvs))) :=
  ⟨cell p (.dK xs), fun a u z => by obtain ⟨rfl, rfl⟩ := of_cell z; exact ⟨upd_same, nx_dK⟩, fun a u z => by obtain ⟨rfl, rfl⟩ := of_cell z; exact k.free hp, fun a u z => by obtain ⟨rfl, rfl⟩ := of_cell z; exact Fr.of hp, p, xs, rfl, upd_same, r⟩
theorem ev_lst {rs : List Vl} (h : EvA K B t env rs) (e : rs = (dsOf rs).map .im := by rfl) (hl : (dsOf rs).length ≤ sizeLine := by exact Nat.le_of_ble_eq_true rfl) : Ev K B (tLst t) env (.nw (oM (.lst (dsOf rs)))) := fun F H σ R Q q =>
  h F H σ R _ fun vs F' H' g r => by
    rw [e] at r
    have r := r.ims
    refine ⟨by rw [r.length]; exact hl, fun p hp => q _ _ _ (g.trans (Gr.new g.kn hp)) ((nw_new g.kn hp r).back g.mo)⟩
theorem ev_dnew : Ev K B tDNewK env (.nw (oM (.dct []))) := fun F H σ R Q q p hp => q _ _ _ (Gr.new R.kn hp) (nw_newD R.kn hp .nil)
/-! ### items -/
theorem ev_ixL {i : Int} (ha : Ev K B ta env (.ob (.lst ds))) (hb : Ev K B tb env (.im (.int i))) (h : atI ds i = some d) : Ev K B (tOp (rIxL K) ta tb) env (.im d) :=
  ev_op ha hb fun B F H x y k ⟨_, hx⟩ ⟨_, hy⟩ Q q => by
    obtain ⟨p, xs, rfl, ex, r⟩ := hx
    obtain rfl := Rp.inv_int hy
    obtain ⟨v, hv, rv⟩ := r.atI h
    exact ⟨p, xs, i, v, rfl, rfl, .inl (.inl ex), hv, q v F H (Gr.refl k) rv⟩
theorem ev_ixT {i : Int} (ha : Ev K B ta env (.im (.tup ds))) (hb : Ev K B tb env (.im (.int i))) (h : atI ds i = some d) : Ev K B (tOp (rIxT K) ta tb) env (.im d) :=
  ev_op ha hb fun B F H x y k ⟨_, hx⟩ ⟨_, hy⟩ Q q => by
    obtain ⟨p, xs, rfl, ex, r⟩ := Rp.inv_tup hx
    obtain rfl := Rp.inv_int hy
    obtain ⟨v, hv, rv⟩ := r.atI h
    exact ⟨p, xs, i, v, rfl, rfl, k.sqT ex, hv, q v F H (Gr.refl k) rv⟩
theorem ev_ixS {i : Int} {s : Str} {n : Nat} (ha : Ev K B ta env (.im (.str s))) (hb : Ev K B tb env (.im (.int i))) (hl : s.length ≤ sizeLine) (h : atI s.cps.toList i = some n) : Ev K B (tOp rIxS ta tb) env (.im (.str (sign n))) :=
  ev_op ha hb fun B F H x y k ⟨_, hx⟩ ⟨_, hy⟩ Q q => by
    obtain rfl := Rp.inv_str hx
    obtain rfl := Rp.inv_int hy
    exact ⟨s, i, n, rfl, rfl, hl, h, q _ F H (Gr.refl k) (.str _)⟩
theorem ev_ixSc {i : Int} {ns : List Int} {n : Int} (ha : Ev K B ta env (.lo (oS ns))) (hb : Ev K B tb env (.im (.int i))) (h : atI ns i = some n) : Ev K B (tOp (rIxL K) ta tb) env (.im (.int n)) :=
  ev_op ha hb fun B F H x y k ⟨_, hx⟩ ⟨_, hy⟩ Q q => by
    obtain ⟨p, rfl, ex⟩ := hx
    obtain rfl := Rp.inv_int hy
    have h2 : atI (ns.map V.int) i = some (V.int n) := by
      unfold atI at h ⊢
      rw [List.length_map]
      cases e : ixN ns.length i with
      | none => rw [e] at h; cases h
      | some j =>
        rw [e] at h
        have h : ns[j]? = some n := h
        show (ns.map V.int)[j]? = _
        rw [List.getElem?_map, h] <;> rfl
    exact ⟨p, _, i, _, rfl, rfl, ex, h2, q _ F H (Gr.refl k) (.int _)⟩
/-! ### len -/
abbrev rLenC (K : PySem.W.Frag) : List V → Hp → VK → Prop := fun xs H Q => ∃ x n, xs = [x] ∧ LenV K x H n ∧ Q (.int n) H
def rLenD : List V → Hp → VK → Prop := fun xs H Q => ∃ a kvs, xs = [V.ref a] ∧ Rd H a (.dK kvs) ∧ Q (.int kvs.length) H
theorem call_lenR {X : Cx} : CallR X (.builtin "len") rLenD := by
  intro pins s σ H xs us Q I r h
  obtain ⟨a, kvs, rfl, ha, q⟩ := h
  obtain ⟨u, rfl, ru⟩ := vals1 r
  cases ru
  exact d_len I ha fun t s' I' => ⟨.int kvs.length, H, I', ⟨t, rfl⟩, q⟩
theorem ev_lenL (h : EvA K B t env [.ob (.lst ds)]) : Ev K B (tCB (rLenC K) t) env (.im (.int ds.length)) :=
  ev_cb h fun B F H vs k ⟨H0, hv⟩ Q q => by
    cases hv with
    | cons hv hn =>
      cases hn
      obtain ⟨p, xs, rfl, ex, r⟩ := hv
      exact ⟨_, ds.length, rfl, .inl ⟨xs, .inl (.inl ex), r.length.symm⟩, q _ F H (Gr.refl k) (.int _)⟩
theorem ev_lenT (h : EvA K B t env [.im (.tup ds)]) : Ev K B (tCB (rLenC K) t) env (.im (.int ds.length)) :=
  ev_cb h fun B F H vs k ⟨H0, hv⟩ Q q => by
    cases hv with
    | cons hv hn =>
      cases hn
      obtain ⟨p, xs, rfl, ex, r⟩ := Rp.inv_tup hv
      exact ⟨_, ds.length, rfl, .inr ⟨xs, k.sqT ex, r.length.symm⟩, q _ F H (Gr.refl k) (.int _)⟩
theorem ev_lenS {s : Str} (h : EvA K B t env [.im (.str s)]) (hl : s.length ≤ sizeLine) : Ev K B (tCB (rLenC K) t) env (.im (.int s.length)) :=
  ev_cb h fun B F H vs k ⟨H0, hv⟩ Q q => by
    cases hv with
    | cons hv hn =>
      cases hn
      obtain rfl := Rp.inv_str hv
      exact ⟨_, s.length, rfl, ⟨hl, rfl⟩, q _ F H (Gr.refl k) (.int _)⟩
theorem ev_lenSc {ns : List Int} (h : EvA K B t env [.lo (oS ns)]) : Ev K B (tCB (rLenC K) t) env (.im (.int ns.length)) :=
  ev_cb h fun B F H vs k ⟨H0, hv⟩ Q q => by
    cases hv with
    | cons hv hn =>
      cases hn
      obtain ⟨p, rfl, ex⟩ := hv
      exact ⟨_, ns.length, rfl, .inl ⟨_, ex, by rw [List.length_map]⟩, q _ F H (Gr.refl k) (.int _)⟩
theorem ev_lenD (h : EvA K B t env [.ob (.dct kvs)]) : Ev K B (tCB rLenD t) env (.im (.int kvs.length)) :=
  ev_cb h fun B F H vs k ⟨H0, hv⟩ Q q => by
    cases hv with
    | cons hv hn =>
      cases hn
      obtain ⟨p, ks, rfl, ex, r⟩ := hv
      exact ⟨p, ks, rfl, ex, by rw [r.length]; exact q _ F H (Gr.refl k) (.int _)⟩
/-! ### in -/
theorem inV_str {n : Str} : ∀ {ns : List Str}, inV (.str n) (ns.map V.str) = decide (n ∈ ns)
  | [] => by simp [inV]
  | m :: ns => by
    have ih := inV_str (n := n) (ns := ns)
    unfold inV at ih ⊢
    rw [List.map_cons, List.any_cons, ih]
    show ((m == n) || _) = _
    by_cases h : m = n
    · subst h; simp
    · have : n ≠ m := fun z => h z.symm
      simp [h, this]
theorem allflat_str : ∀ ns : List Str, (ns.map V.str).all flatV = true
  | [] => rfl
  | n :: ns => by rw [List.map_cons, List.all_cons, allflat_str ns] <;> rfl
theorem ev_inL {n : Str} {ns : List Str} (ha : Ev K B ta env (.im (.str n))) (hb : Ev K B tb env (.ob (.lst (ns.map .str)))) : Ev K B (tOp (rIn K false) ta tb) env (.im (.bl (decide (n ∈ ns)))) :=
  ev_op ha hb fun B F H x y k ⟨_, hx⟩ ⟨_, hy⟩ Q q => by
    obtain rfl := Rp.inv_str hx
    obtain ⟨p, xs, rfl, ex, r⟩ := hy
    obtain rfl := r.strs
    exact ⟨p, _, rfl, .inl (.inl (.inl ex)), rfl, allflat_str ns, by rw [if_neg Bool.false_ne_true, inV_str]; exact q _ F H (Gr.refl k) (.bl _)⟩
theorem ev_ninL {n : Str} {ns : List Str} (ha : Ev K B ta env (.im (.str n))) (hb : Ev K B tb env (.ob (.lst (ns.map .str)))) : Ev K B (tOp (rIn K true) ta tb) env (.im (.bl (!decide (n ∈ ns)))) :=
  ev_op ha hb fun B F H x y k ⟨_, hx⟩ ⟨_, hy⟩ Q q => by
    obtain rfl := Rp.inv_str hx
    obtain ⟨p, xs, rfl, ex, r⟩ := hy
    obtain rfl := r.strs
    exact ⟨p, _, rfl, .inl (.inl (.inl ex)), rfl, allflat_str ns, by rw [if_pos rfl, inV_str]; exact q _ F H (Gr.refl k) (.bl _)⟩
theorem ev_inT {n : Str} {ns : List Str} (ha : Ev K B ta env (.im (.str n))) (hb : Ev K B tb env (.im (.tup (ns.map .str)))) : Ev K B (tOp (rIn K false) ta tb) env (.im (.bl (decide (n ∈ ns)))) :=
  ev_op ha hb fun B F H x y k ⟨_, hx⟩ ⟨_, hy⟩ Q q => by
    obtain rfl := Rp.inv_str hx
    obtain ⟨p, xs, rfl, ex, r⟩ := Rp.inv_tup hy
    obtain rfl := r.strs
    exact ⟨p, _, rfl, .inr (k.sqT ex), rfl, allflat_str ns, by rw [if_neg Bool.false_ne_true, inV_str]; exact q _ F H (Gr.refl k) (.bl _)⟩
abbrev rInSg : R2 := fun x y H Q => ∃ (c : Nat) (z : Str), x = .str ⟨#[c]⟩ ∧ y = .str z ∧ Q (.bl (decide (c ∈ z.cps.toList))) H
theorem ev_inSg {n : Nat} {s : Str} (ha : Ev K B ta env (.im (.str (sign n)))) (hb : Ev K B tb env (.im (.str s))) : Ev K B (tOp rInSg ta tb) env (.im (.bl (decide (n ∈ s.cps.toList)))) :=
  ev_op ha hb fun B F H x y k ⟨_, hx⟩ ⟨_, hy⟩ Q q => ⟨n, s, Rp.inv_str hx, Rp.inv_str hy, q _ F H (Gr.refl k) (.bl _)⟩
/-! ### dicts -/
theorem ev_dget {s : Str} (hd : Ev K B td env (.ob (.dct kvs))) (hy : Ev K B ty env (.im (.str s))) (h : kget kvs s = some d) : Ev K B (tDGet td ty) env (.im d) := fun F H σ R Q q =>
  hd F H σ R _ fun x F1 H1 g1 x1 => hy F1 H1 σ (R.step g1) _ fun y F2 H2 g2 y2 => by
    obtain ⟨p, ks, rfl, ex, r⟩ := (oB (.dct kvs)).mono g2.fk g2.hk x1
    obtain rfl := Rp.inv_str y2
    obtain ⟨v, hv, rv⟩ := r.val h
    exact ⟨p, v, rfl, .inl ⟨ks, Sum.inr s, ex, rfl, hv.symm⟩, q v F2 H2 (g1.trans g2) rv⟩
theorem ev_din {s : Str} (hy : Ev K B ty env (.im (.str s))) (hd : Ev K B td env (.ob (.dct kvs))) : Ev K B (tDIn ty td) env (.im (.bl (kget kvs s).isSome)) := fun F H σ R Q q =>
  hy F H σ R _ fun x F1 H1 g1 x1 => hd F1 H1 σ (R.step g1) _ fun y F2 H2 g2 y2 => by
    obtain ⟨p, ks, rfl, ex, r⟩ := y2
    obtain rfl := Rp.inv_str x1
    refine ⟨p, _, rfl, .inl ⟨ks, Sum.inr s, ex, rfl, rfl⟩, ?_⟩
    rw [r.some s]
    exact q _ F2 H2 (g1.trans g2) (.bl _)
theorem ev_dnin {s : Str} (hy : Ev K B ty env (.im (.str s))) (hd : Ev K B td env (.ob (.dct kvs))) : Ev K B (tDNotIn ty td) env (.im (.bl (!(kget kvs s).isSome))) := fun F H σ R Q q =>
  hy F H σ R _ fun x F1 H1 g1 x1 => hd F1 H1 σ (R.step g1) _ fun y F2 H2 g2 y2 => by
    obtain ⟨p, ks, rfl, ex, r⟩ := y2
    obtain rfl := Rp.inv_str x1
    refine ⟨p, _, rfl, .inl ⟨ks, Sum.inr s, ex, rfl, rfl⟩, ?_⟩
    rw [r.some s]
    exact q _ F2 H2 (g1.trans g2) (.bl _)
theorem ev_dget2 {s : Str} (hd : Ev K B td env (.ob (.dct kvs))) (hy : Ev K B ty env (.im (.str s))) (hx : Ev K B tx env (.im e)) : Ev K B (tDGet2 td ty tx) env (.im ((kget kvs s).getD e)) := fun F H σ R Q q =>
  hd F H σ R _ fun x F1 H1 g1 x1 => by
    obtain ⟨p, ks, rfl, ex, r⟩ := x1
    refine ⟨p, rfl, .inl ⟨ks, ex⟩, hy F1 H1 σ (R.step g1) _ fun y F2 H2 g2 y2 => hx F2 H2 σ ((R.step g1).step g2) _ fun z F3 H3 g3 z3 => ?_⟩
    obtain rfl := Rp.inv_str y2
    have g13 := g2.trans g3
    refine ⟨_, .inl ⟨ks, Sum.inr s, g13.hk.rd ex, rfl, rfl⟩, ?_⟩
    cases h : kget kvs s with
    | none =>
      rw [r.non h]
      exact q _ F3 H3 (g1.trans g13) (by rw [h]; exact z3)
    | some d =>
      obtain ⟨v, hv, rv⟩ := r.val h
      rw [hv]
      exact q _ F3 H3 (g1.trans g13) (by rw [h]; exact Rp.mono g13.fk rv)
/-! ### + of lists, of tuples, of texts; list * n -/
theorem ev_cat (ha : Ev K B ta env (.ob (.lst ds))) (hb : Ev K B tb env (.ob (.lst es))) (hl : ds.length + es.length ≤ sizeLine) : Ev K B (tOp rCat ta tb) env (.nw (oM (.lst (ds ++ es)))) :=
  ev_op ha hb fun B F H x y k ⟨_, hx⟩ ⟨_, hy⟩ Q q => by
    obtain ⟨p, xs, rfl, ex, r⟩ := hx
    obtain ⟨p', ys, rfl, ey, r'⟩ := hy
    exact ⟨p, p', xs, ys, rfl, rfl, ex, ey, by rw [r.length, r'.length]; exact hl, fun l hn => q _ F _ (Gr.new k hn) (nw_new k hn (r.app r'))⟩
theorem RpL.rep {F : Hp} {xs : List V} (r : RpL K F xs ds) : ∀ n : Nat, RpL K F (List.replicate n xs).flatten (List.replicate n ds).flatten
  | 0 => .nil
  | n + 1 => by
    rw [List.replicate_succ, List.replicate_succ, List.flatten_cons, List.flatten_cons]
    exact r.app (RpL.rep r n)
theorem ev_rep {n : Int} (ha : Ev K B ta env (.ob (.lst ds))) (hb : Ev K B tb env (.im (.int n))) (h1 : -(2 ^ 63) ≤ n) (h2 : n < 2 ^ 63) (hl : ds.length * n.toNat ≤ sizeLine) : Ev K B (tOp rRep ta tb) env (.nw (oM (.lst (List.replicate n.toNat ds).flatten))) :=
  ev_op ha hb fun B F H x y k ⟨_, hx⟩ ⟨_, hy⟩ Q q => by
    obtain ⟨p, xs, rfl, ex, r⟩ := hx
    obtain rfl := Rp.inv_int hy
    exact ⟨p, n, xs, rfl, rfl, ex, h1, h2, by rw [r.length]; exact hl, fun l hn => q _ F _ (Gr.new k hn) (nw_new k hn (r.rep _))⟩
theorem ev_catT (ha : Ev K B ta env (.im (.tup ds))) (hb : Ev K B tb env (.im (.tup es))) (hl : ds.length + es.length ≤ sizeLine) : Ev K B (tOp (rCatA K) ta tb) env (.im (.tup (ds ++ es))) :=
  ev_op ha hb fun B F H x y k ⟨_, hx⟩ ⟨_, hy⟩ Q q => by
    obtain ⟨p, xs, rfl, ex, r⟩ := Rp.inv_tup hx
    obtain ⟨p', ys, rfl, ey, r'⟩ := Rp.inv_tup hy
    refine ⟨p, p', xs, ys, rfl, rfl, k.sqT ex, k.sqT ey, by rw [r.length, r'.length]; exact hl, ?_⟩
    have rr := r.app r'
    refine ⟨fun z => ?_, fun z z' => ?_, fun z z' l hn => ?_⟩
    · subst z
      cases r
      exact q _ F H (Gr.refl k) (.tup ey r')
    · subst z'
      cases r'
      refine q _ F H (Gr.refl k) ?_
      show Rp K F _ _
      rw [List.append_nil]
      exact .tup ex r
    · exact q _ _ _ (Gr.newF k hn) (.tup (.inl (.inl upd_same)) (rr.mono (Gr.newF (o := .tup (xs ++ ys)) k hn).fk))
abbrev rAddSt : R2 := fun x y H Q => ∃ i j, x = .str i ∧ y = .str j ∧ i.length + j.length ≤ sizeLine ∧ Q (.str (i ++ j)) H
theorem ev_addS {i j : Str} (ha : Ev K B ta env (.im (.str i))) (hb : Ev K B tb env (.im (.str j))) (hl : i.length + j.length ≤ sizeLine) : Ev K B (tOp rAddSt ta tb) env (.im (.str (i ++ j))) :=
  ev_op ha hb fun B F H x y k ⟨_, hx⟩ ⟨_, hy⟩ Q q => ⟨i, j, Rp.inv_str hx, Rp.inv_str hy, hl, q _ F H (Gr.refl k) (.str _)⟩
abbrev rLtSt : R2 := fun x y H Q => ∃ i j, x = .str i ∧ y = .str j ∧ Q (.bl (decide (i.cps.toList < j.cps.toList))) H
theorem ev_ltS {i j : Str} (ha : Ev K B ta env (.im (.str i))) (hb : Ev K B tb env (.im (.str j))) : Ev K B (tOp rLtSt ta tb) env (.im (.bl (decide (i.cps.toList < j.cps.toList)))) :=
  ev_op ha hb fun B F H x y k ⟨_, hx⟩ ⟨_, hy⟩ Q q => ⟨i, j, Rp.inv_str hx, Rp.inv_str hy, q _ F H (Gr.refl k) (.bl _)⟩
/-! ### built-ins -/
abbrev rAbs : List V → Hp → VK → Prop := fun xs H Q => ∃ i, xs = [.int i] ∧ Q (.int (if i < 0 then -i else i)) H
theorem ev_abs {i : Int} (h : EvA K B t env [.im (.int i)]) : Ev K B (tCB rAbs t) env (.im (.int (if i < 0 then -i else i))) :=
  ev_cb h fun B F H vs k ⟨H0, hv⟩ Q q => by
    cases hv with
    | cons hv hn =>
      cases hn
      obtain rfl := Rp.inv_int hv
      exact ⟨i, rfl, q _ F H (Gr.refl k) (.int _)⟩
abbrev rMax2 : List V → Hp → VK → Prop := fun xs H Q => ∃ i j, xs = [.int i, .int j] ∧ Q (.int (if j > i then j else i)) H
abbrev rMin2 : List V → Hp → VK → Prop := fun xs H Q => ∃ i j, xs = [.int i, .int j] ∧ Q (.int (if j < i then j else i)) H
theorem ev_max2 {i j : Int} (h : EvA K B t env [.im (.int i), .im (.int j)]) : Ev K B (tCB rMax2 t) env (.im (.int (max i j))) :=
  ev_cb h fun B F H vs k ⟨H0, hv⟩ Q q => by
    cases hv with
    | cons hv hn =>
      cases hn with
      | cons hw hn =>
        cases hn
        obtain rfl := Rp.inv_int hv
        obtain rfl := Rp.inv_int hw
        refine ⟨i, j, rfl, q _ F H (Gr.refl k) ?_⟩
        have e : (if j > i then j else i) = max i j := by
          by_cases z : j > i
          · rw [if_pos z]; omega
          · rw [if_neg z]; omega
        rw [e]
        exact Rp.int _
theorem ev_min2 {i j : Int} (h : EvA K B t env [.im (.int i), .im (.int j)]) : Ev K B (tCB rMin2 t) env (.im (.int (min i j))) :=
  ev_cb h fun B F H vs k ⟨H0, hv⟩ Q q => by
    cases hv with
    | cons hv hn =>
      cases hn with
      | cons hw hn =>
        cases hn
        obtain rfl := Rp.inv_int hv
        obtain rfl := Rp.inv_int hw
        refine ⟨i, j, rfl, q _ F H (Gr.refl k) ?_⟩
        have e : (if j < i then j else i) = min i j := by
          by_cases z : j < i
          · rw [if_pos z]; omega
          · rw [if_neg z]; omega
        rw [e]
        exact Rp.int _
abbrev rInt1 : List V → Hp → VK → Prop := fun xs H Q => (∃ i, xs = [.int i] ∧ Q (.int i) H) ∨ ∃ k, xs = [.bl k] ∧ Q (.int (if k then 1 else 0)) H
theorem ev_intB {b : Bool} (h : EvA K B t env [.im (.bl b)]) : Ev K B (tCB rInt1 t) env (.im (.int (if b then 1 else 0))) :=
  ev_cb h fun B F H vs k ⟨H0, hv⟩ Q q => by
    cases hv with
    | cons hv hn =>
      cases hn
      obtain rfl := Rp.inv_bl hv
      exact .inr ⟨b, rfl, q _ F H (Gr.refl k) (.int _)⟩
theorem ev_sum {ns : List Int} (h : EvA K B t env [.ob (.lst (ns.map .int))]) : Ev K B (tCB (rSum K) t) env (.im (.int ns.sum)) :=
  ev_cb h fun B F H vs k ⟨H0, hv⟩ Q q => by
    cases hv with
    | cons hv hn =>
      cases hn
      obtain ⟨p, xs, rfl, ex, r⟩ := hv
      obtain rfl := r.ints
      exact ⟨p, ns, rfl, .inl (.inl ex), q _ F H (Gr.refl k) (.int _)⟩
theorem ev_all {bs : List Bool} (h : EvA K B t env [.ob (.lst (bs.map .bl))]) : Ev K B (tCB (rAll K) t) env (.im (.bl (bs.all id))) :=
  ev_cb h fun B F H vs k ⟨H0, hv⟩ Q q => by
    cases hv with
    | cons hv hn =>
      cases hn
      obtain ⟨p, xs, rfl, ex, r⟩ := hv
      obtain rfl := r.bls
      exact ⟨p, bs, rfl, .inl (.inl ex), q _ F H (Gr.refl k) (.bl _)⟩
abbrev rListC (K : PySem.W.Frag) : List V → Hp → VK → Prop := fun xs H Q => ∃ p ys, xs = [.ref p] ∧ (SqL K H p ys ∨ SqT K H p ys) ∧ ∀ l, H l = none → Q (.ref l) (upd H l (.lst ys))
theorem ev_listL (h : EvA K B t env [.ob (.lst ds)]) : Ev K B (tCB (rListC K) t) env (.nw (oM (.lst ds))) :=
  ev_cb h fun B F H vs k ⟨H0, hv⟩ Q q => by
    cases hv with
    | cons hv hn =>
      cases hn
      obtain ⟨p, xs, rfl, ex, r⟩ := hv
      exact ⟨p, xs, rfl, .inl (.inl (.inl ex)), fun l hn => q _ F _ (Gr.new k hn) (nw_new k hn r)⟩
theorem ev_listT (h : EvA K B t env [.im (.tup ds)]) : Ev K B (tCB (rListC K) t) env (.nw (oM (.lst ds))) :=
  ev_cb h fun B F H vs k ⟨H0, hv⟩ Q q => by
    cases hv with
    | cons hv hn =>
      cases hn
      obtain ⟨p, xs, rfl, ex, r⟩ := Rp.inv_tup hv
      exact ⟨p, xs, rfl, .inr (k.sqT ex), fun l hn => q _ F _ (Gr.new k hn) (nw_new k hn r)⟩
abbrev rListK : List V → Hp → VK → Prop := fun xs H Q => ∃ (a : Addr) (kvs : List (Key × V)), xs = [.ref a] ∧ Rd H a (.dK kvs) ∧ ∀ p, H p = none → Q (.ref p) (upd H p (.lst (kvs.map fun kv => kV kv.1)))
theorem RpK.keyL {F : Hp} : ∀ {ks : List (Key × V)} {kvs : List (Str × D)}, RpK K F ks kvs → RpL K F (ks.map fun kv => kV kv.1) ((kvs.map (·.1)).map .str)
  | _, _, .nil => .nil
  | _, _, .cons a r => .cons (.str _) (RpK.keyL r)
theorem ev_listD (h : EvA K B t env [.ob (.dct kvs)]) : Ev K B (tCB rListK t) env (.nw (oM (.lst ((kvs.map (·.1)).map .str)))) :=
  ev_cb h fun B F H vs k ⟨H0, hv⟩ Q q => by
    cases hv with
    | cons hv hn =>
      cases hn
      obtain ⟨p, xs, rfl, ex, r⟩ := hv
      exact ⟨p, xs, rfl, ex, fun l hn => q _ F _ (Gr.new k hn) (nw_new k hn r.keyL)⟩
abbrev rTupC (K : PySem.W.Frag) : List V → Hp → VK → Prop := fun xs H Q => ∃ p ys, xs = [.ref p] ∧ ((SqL K H p ys ∧ ∀ l, H l = none → Q (.ref l) (upd H l (.tup ys))) ∨ (SqT K H p ys ∧ Q (.ref p) H))
theorem ev_tupleL (h : EvA K B t env [.ob (.lst ds)]) : Ev K B (tCB (rTupC K) t) env (.im (.tup ds)) :=
  ev_cb h fun B F H vs k ⟨H0, hv⟩ Q q => by
    cases hv with
    | cons hv hn =>
      cases hn
      obtain ⟨p, xs, rfl, ex, r⟩ := hv
      exact ⟨p, xs, rfl, .inl ⟨.inl (.inl ex), fun l hn => q _ _ _ (Gr.newF k hn) (.tup (.inl (.inl upd_same)) (r.mono (Gr.newF (o := .tup xs) k hn).fk))⟩⟩
theorem ev_revL (h : Ev K B te env (.ob (.lst ds))) : Ev K B (tRevL K te) env (.nw (oM (.lst ds.reverse))) := fun F H σ R Q q =>
  h F H σ R _ fun v F' H' g r => by
    obtain ⟨p, xs, rfl, ex, r⟩ := r
    exact ⟨p, xs, rfl, .inl (.inl ex), fun l hn => q _ F' _ (g.trans (Gr.new g.kn hn)) ((nw_new g.kn hn r.rev).back g.mo)⟩
end
end NM
/-! sorted and min of data. -/
namespace NM
open PySem PySem.Spec PyProof.Rows L2
variable [Tbs]
open PySem.W (dataLe AllAlike Sortable EachIs DatumOrd Datum)
def rSortG (K : PySem.W.Frag) : List V → Hp → VK → Prop := fun vs H Q => ∃ (a : Addr) (bs : List (V × PyData)), vs = [V.ref a] ∧ SqL K H a (bs.map Prod.fst) ∧ (∀ b ∈ bs, Dp K H b.1 b.2) ∧ AllAlike (bs.map Prod.snd) ∧ Sortable (bs.map Prod.snd) ∧ (∀ b ∈ bs, b.2.depth ≤ 60) ∧
  ∀ p, H p = none → Q (.ref p) (upd H p (.lst ((bs.mergeSort (dataLe false Prod.snd)).map Prod.fst)))
def rMinG (K : PySem.W.Frag) : List V → Hp → VK → Prop := fun vs H Q => ∃ (a : Addr) (xs : List V) (d : PyData) (ds : List PyData), vs = [V.ref a] ∧ SqL K H a xs ∧ DpAll K H xs (d :: ds) ∧ PySem.W.AlikeAll (d :: ds) ∧ PyData.depthAll (d :: ds) ≤ 60 ∧
  ∀ (i : Nat) (v : V), xs[i]? = some v → (d :: ds)[i]? = some (PySem.W.minD d ds) → Q v H
theorem each_vals : ∀ {bs : List (V × PyData)} {us : List Value}, Vals (bs.map Prod.fst) us → EachIs (fun (v : Value) (b : V × PyData) => RelV b.1 v) us bs
  | [], _, r => by cases r; exact .nil
  | b :: bs, _, r => by
    cases r with
    | cons a r => exact .cons a (each_vals r)
theorem vals_each : ∀ {bs : List (V × PyData)} {us : List Value}, EachIs (fun (v : Value) (b : V × PyData) => RelV b.1 v) us bs → Vals (bs.map Prod.fst) us
  | [], _, r => by cases r; exact .nil
  | b :: bs, _, r => by
    cases r with
    | cons a r => exact .cons a (vals_each r)
theorem each_reads {X : Cx} {pins : List (Addr × Obj)} {σ : L2.St} {H : Hp} {s : Shared} (I : Inv X pins σ H s) : ∀ {bs : List (V × PyData)} {us : List Value}, Vals (bs.map Prod.fst) us → (∀ b ∈ bs, Dp X.K H b.1 b.2) → EachIs (fun (v : Value) (b : V × PyData) => ∃ as, Reads s.heap v b.2 as) us bs
  | [], _, r, _ => by cases r; exact .nil
  | b :: bs, _, r, h => by
    cases r with
    | cons a r => exact .cons (Dp.reads I _ _ _ (h b List.mem_cons_self) a) (each_reads I r fun x hx => h x (List.mem_cons_of_mem _ hx))
theorem cr_sortedG {X : Cx} (hu : X.A.units + 64 < cLine) : CallR X (.builtin "sorted") (rSortG X.K) := by
  intro pins s σ H vs us Q I r h
  obtain ⟨a, bs, rfl, hs, hd, hal, hk, hdp, q⟩ := h
  obtain ⟨its, rv, hl, hz⟩ := I.list hs
  rw [List.length_map] at hz
  rw [Vals.ref1 r]
  refine PySem.W.sorted_data (enc := Prod.snd) hl.isList (each_vals rv) (each_reads I rv hd) hal hk hz (fun b hb => by have := hdp b hb; omega) fun out h1 h2 => ?_
  obtain ⟨ep, he'⟩ := PyProof.Rows.sortedAll_at s.heap its out.toArray
  have hlen : ((bs.mergeSort (dataLe false Prod.snd)).map Prod.fst).length ≤ sizeLine := by
    rw [List.length_map, List.length_mergeSort]
    exact hz
  exact ⟨.ref _, upd H (s.heap.objs.size + 1) (.lst ((bs.mergeSort (dataLe false Prod.snd)).map Prod.fst)), I.laid (t' := s.toks) (fun _ _ => PyProof.Rows.sortedAll_old) (Nat.le_succ _) ⟨hlen, out, ep, vals_each h2, he'⟩, rfl, q _ (I.hok.fresh (Nat.le_succ _))⟩
theorem dpl_at {K : PySem.W.Frag} {H : Hp} : ∀ {xs : List V} {ds : List PyData} {i : Nat} {v : V}, DpAll K H xs ds → xs[i]? = some v → ∃ d, ds[i]? = some d ∧ Dp K H v d
  | _, _, i, _, .nil, e => by simp at e
  | _, _, 0, _, .cons a _, e => by simp at e; subst e; exact ⟨_, rfl, a⟩
  | _, _, i + 1, v, .cons _ t, e => by
    obtain ⟨d, h1, h2⟩ := dpl_at (i := i) (v := v) t (by simpa using e)
    exact ⟨d, by simpa using h1, h2⟩
theorem vals_at : ∀ {xs : List V} {us : List Value} {i : Nat} {u : Value}, Vals xs us → us[i]? = some u → ∃ v, xs[i]? = some v ∧ RelV v u
  | _, _, i, _, .nil, e => by simp at e
  | _, _, 0, _, .cons a _, e => by simp at e; subst e; exact ⟨_, rfl, a⟩
  | _, _, i + 1, v, .cons _ t, e => by
    obtain ⟨d, h1, h2⟩ := vals_at (i := i) (u := v) t (by simpa using e)
    exact ⟨d, by simpa using h1, h2⟩
theorem cr_minG {X : Cx} (hc : X.calm = true) (hu : X.A.units + 64 < cLine) : CallR X (.builtin "min") (rMinG X.K) := by
  intro pins s σ H vs us Q I r h
  obtain ⟨a, xs, d, ds, rfl, hs, hd, hal, hdp, q⟩ := h
  obtain ⟨its, rv, hl, hz⟩ := I.list hs
  rw [Vals.ref1 r]
  obtain ⟨as, hr⟩ := Dp.readsAll I _ _ its hd rv
  refine PySem.W.min_list_data (I.ok.hd hc) hl.isList (by simpa using hr) hal (by omega) fun i v h' tk bs hi hm hk => ?_
  have hi : its[i]? = some v := by simpa using hi
  obtain ⟨x, hx, rx⟩ := vals_at rv hi
  obtain ⟨e, he, de⟩ := dpl_at hd hx
  have I' : Inv X pins σ H { s with heap := h', toks := tk } := I.kept hk
  obtain ⟨as', re⟩ := Dp.reads I' e x v de rx
  have ee : e = PySem.W.minD d ds := (PySem.Reads.unique re _ _ hm).1
  subst ee
  exact ⟨x, H, I', rx, q i x hx he⟩
/-! ### upon data with an order -/
section
variable {α : Type} [DecidableEq α] [DatumOrd α]
/-- x is no greater than y -/
def leO (x y : α) : Bool := !DatumOrd.lt y x
def sortO (xs : List α) : List α := xs.mergeSort leO
theorem dataLe_O (x y : α) : dataLe false Datum.toD x y = leO x y := by
  show (!PySem.W.dataLt (Datum.toD y) (Datum.toD x)) = _
  rw [DatumOrd.lt_eq]
  all_goals rfl
variable {K : PySem.W.Frag} {B : Hp} {env : Env} {ta : TA} {enc : α → D}
theorem okd_of {n : Nat} {xs : List α} (h : ∀ x ∈ xs, Okd n (enc x)) : ∀ d ∈ xs.map enc, Okd n d := fun d hd => by
  obtain ⟨x, hx, rfl⟩ := List.mem_map.mp hd
  exact h x hx
/-- sorted(xs) -/
theorem ev_sorted {n : Nat} {xs : List α} (hp : ∀ x : α, py (enc x) = Datum.toD x) (ho : ∀ x ∈ xs, Okd n (enc x)) (hn : n ≤ 60) (hk : (∀ x ∈ xs, ∃ d r, Datum.toD x = .tuple (d :: r)) ∨ ∀ x ∈ xs, ∀ ds, Datum.toD x ≠ .tuple ds)
    (h : EvA K B ta env [.ob (.lst (xs.map enc))]) : Ev K B (tCB (rSortG K) ta) env (.nw (oM (.lst ((sortO xs).map enc)))) :=
  ev_cb h fun B F H vs k ⟨H0, hv⟩ Q q => by
    cases hv with
    | cons hv hn2 =>
      cases hn2
      obtain ⟨a, ys, rfl, e, r⟩ := hv
      -- the pairs of values and data
      have key : ∀ {zs : List α} {ws : List V}, RpL K F ws (zs.map enc) → (∀ x ∈ zs, Okd n (enc x)) → ∃ ps : List (V × α), ps.map Prod.fst = ws ∧ ps.map Prod.snd = zs ∧ ∀ p ∈ ps, Rp K F p.1 (enc p.2) ∧ Okd n (enc p.2) := by
        intro zs
        induction zs with
        | nil => intro ws r _; cases r; exact ⟨[], rfl, rfl, fun p z => nomatch z⟩
        | cons z zs ih =>
          intro ws r ok
          cases r with
          | cons a r =>
            obtain ⟨ps, e1, e2, e3⟩ := ih r fun x hx => ok x (List.mem_cons_of_mem _ hx)
            refine ⟨(_, z) :: ps, by rw [List.map_cons, e1], by rw [List.map_cons, e2], fun p hp => ?_⟩
            rcases List.mem_cons.mp hp with rfl | hp
            · exact ⟨a, ok z List.mem_cons_self⟩
            · exact e3 p hp
      obtain ⟨ps, e1, e2, e3⟩ := key r ho
      have em : (ps.map fun p => (p.1, (Datum.toD p.2 : PyData))).map Prod.fst = ys := by
        rw [List.map_map, ← e1]
        all_goals rfl
      have es : (ps.map fun p => (p.1, (Datum.toD p.2 : PyData))).map Prod.snd = xs.map Datum.toD := by
        rw [List.map_map, ← e2, List.map_map]
        all_goals rfl
      refine ⟨a, ps.map fun p => (p.1, Datum.toD p.2), rfl, by rw [em]; exact .inl (.inl e), fun b hb => ?_, ?_, ?_, fun b hb => ?_, fun p hp0 => ?_⟩
      · obtain ⟨p, hp', rfl⟩ := List.mem_map.mp hb
        obtain ⟨r1, o1⟩ := e3 p hp'
        show Dp K H p.1 (Datum.toD p.2)
        rw [← hp]
        exact dp_mono k (rp_dp o1 r1)
      · rw [es]
        intro d hd d' hd'
        obtain ⟨x, _, rfl⟩ := List.mem_map.mp hd
        obtain ⟨y, _, rfl⟩ := List.mem_map.mp hd'
        exact DatumOrd.alike x y
      · rw [es]
        rcases hk with hk | hk
        · refine .inl fun d hd => ?_
          obtain ⟨x, hx, rfl⟩ := List.mem_map.mp hd
          exact hk x hx
        · refine .inr fun d hd => ?_
          obtain ⟨x, hx, rfl⟩ := List.mem_map.mp hd
          exact ⟨DatumOrd.notNone x, hk x hx⟩
      · obtain ⟨p, hp', rfl⟩ := List.mem_map.mp hb
        obtain ⟨_, o1⟩ := e3 p hp'
        show (Datum.toD p.2 : PyData).depth ≤ 60
        rw [← hp]
        exact Nat.le_trans (okd_py o1).2 hn
      · have s1 : (ps.map fun p => (p.1, (Datum.toD p.2 : PyData))).mergeSort (dataLe false Prod.snd) = (ps.mergeSort fun p q => leO p.2 q.2).map fun p => (p.1, Datum.toD p.2) := by
          refine (PySem.W.sort_maps _ fun x _ y _ => ?_).symm
          exact (dataLe_O x.2 y.2).symm
        have s2 : (ps.mergeSort fun p q => leO p.2 q.2).map Prod.snd = sortO xs := by
          rw [← e2]
          exact PySem.W.sort_maps _ fun x _ y _ => rfl
        have s3 : ∀ p ∈ (ps.mergeSort fun p q => leO p.2 q.2), Rp K F p.1 (enc p.2) := fun p hp' => (e3 p (List.mem_mergeSort.mp hp')).1
        have back : ∀ {qs : List (V × α)}, (∀ p ∈ qs, Rp K F p.1 (enc p.2)) → RpL K F (qs.map Prod.fst) ((qs.map Prod.snd).map enc) := by
          intro qs
          induction qs with
          | nil => intro _; exact .nil
          | cons z zs ih => intro hh; exact .cons (hh z List.mem_cons_self) (ih fun x hx => hh x (List.mem_cons_of_mem _ hx))
        have bk := back s3
        rw [s2] at bk
        refine q _ F _ (Gr.new k hp0) ⟨cell p (.lst _), fun x u z => ?_, fun x u z => ?_, fun x u z => ?_, p, _, rfl, upd_same, bk⟩
        · obtain ⟨rfl, rfl⟩ := of_cell z
          refine ⟨?_, nx_lst⟩
          rw [upd_same, s1, List.map_map]
          all_goals rfl
        · obtain ⟨rfl, rfl⟩ := of_cell z
          exact k.free hp0
        · obtain ⟨rfl, rfl⟩ := of_cell z
          exact Fr.of hp0
/-- min(xs) -/
theorem ev_min {n : Nat} {x : α} {xs : List α} (hp : ∀ x : α, py (enc x) = Datum.toD x) (ho : ∀ z ∈ x :: xs, Okd n (enc z)) (hn : n ≤ 60)
    (h : EvA K B ta env [.ob (.lst ((x :: xs).map enc))]) : Ev K B (tCB (rMinG K) ta) env (.im (enc (PySem.W.minOf x xs))) :=
  ev_cb h fun B F H vs k ⟨H0, hv⟩ Q q => by
    cases hv with
    | cons hv hn2 =>
      cases hn2
      obtain ⟨a, ys, rfl, e, r⟩ := hv
      have ep : pyL ((x :: xs).map enc) = (x :: xs).map Datum.toD := by
        have : ∀ zs : List α, pyL (zs.map enc) = zs.map Datum.toD := by
          intro zs
          induction zs with
          | nil => simp [pyL]
          | cons z zs ih => simp [pyL, hp, ih]
        exact this _
      have hd := dpl_mono k (rpl_dp (okd_of ho) r)
      rw [ep] at hd
      refine ⟨a, ys, Datum.toD x, xs.map Datum.toD, rfl, .inl (.inl e), hd, ?_, ?_, fun i v hi hm => ?_⟩
      · exact PySem.W.alikeAll_datum (x :: xs)
      · have : ∀ zs : List α, (∀ z ∈ zs, Okd n (enc z)) → PyData.depthAll (zs.map Datum.toD) ≤ n := by
          intro zs
          induction zs with
          | nil => intro _; exact Nat.zero_le _
          | cons z zs ih =>
            intro hh
            have h1 := (okd_py (hh z List.mem_cons_self)).2
            rw [hp] at h1
            have h2 := ih fun y hy => hh y (List.mem_cons_of_mem _ hy)
            simp only [List.map_cons, PyData.depthAll]
            omega
        exact Nat.le_trans (this (x :: xs) ho) hn
      · obtain ⟨dd, hdd, rv⟩ := r.getV hi
        rw [List.getElem?_map] at hdd
        obtain ⟨z, hz, rfl⟩ := Option.map_eq_some_iff.mp hdd
        rw [PySem.W.minD_map, ← List.map_cons, List.getElem?_map, hz] at hm
        have e2 : (Datum.toD z : PyData) = Datum.toD (PySem.W.minOf x xs) := Option.some.inj hm
        have e3 : z = PySem.W.minOf x xs := by
          have w1 := Datum.eqv z (PySem.W.minOf x xs)
          have w2 := Datum.eqv (PySem.W.minOf x xs) (PySem.W.minOf x xs)
          rw [e2] at w1
          rw [w2, decide_eq_true rfl] at w1
          exact of_decide_eq_true w1.symm
        rw [e3] at rv
        exact q _ F H (Gr.refl k) rv
end
end NM
/-! Calls and their promises, things of one's own that are written, walks of dicts, isinstance. -/
namespace NM
open PySem PySem.Spec PyProof.Rows L2
variable [Tbs]

/-! ### promises -/
inductive Res where
  | ok (r : Vl) | ex (C : Addr)
/-- the promise by a relation of what is handed in and what comes back -/
def spX (K : PySem.W.Frag) (S : List Vl → Res → Prop) (n : Nat) : Sp := fun vs H Q E => ∃ (F : Hp) (rs : List Vl) (res : Res), vs.length = n ∧ Kn F H ∧ LamX.Tabs Tbs.T H ∧ VlL K H H F H vs rs ∧ S rs res ∧ (match res with
  | .ok r => ∀ v F' H', Gr F F' H H' → VlOk K H H F' H' v r → Q v H'
  | .ex C => ∀ F' H', Gr F F' H H' → E (.ref C) none H')
/-- how what is handed in stands in the slots -/
def toSl : Vl → Sl
  | .im d => .im d
  | .lo o => .br o
  | .br o => .br o
  | .nw _ => .un
/-- frozen, or looked at -/
def Flat : Vl → Prop
  | .im _ => True
  | .lo _ => True
  | _ => False
/-- what comes back: frozen, or new -/
def Back : Vl → Prop
  | .im _ => True
  | .nw _ => True
  | _ => False
section
variable {K : PySem.W.Frag} {B B' H0 H0' F H : Hp}
theorem VlOk.flat {v : V} {r : Vl} (f : Flat r) (h : VlOk K B H0 F H v r) : VlOk K B' H0' F H v r := by
  cases r with
  | im d => exact h
  | lo o => exact h
  | nw o => exact f.elim
  | br o => exact f.elim
theorem VlL.flat : ∀ {vs : List V} {rs : List Vl}, (∀ r ∈ rs, Flat r) → VlL K B H0 F H vs rs → VlL K B' H0' F H vs rs
  | _, _, _, .nil => .nil
  | _, _, f, .cons a b => .cons (a.flat (f _ List.mem_cons_self)) (VlL.flat (fun r hr => f r (List.mem_cons_of_mem _ hr)) b)
theorem VlOk.back' {v : V} {r : Vl} (f : Back r) (h : VlOk K B H0 F H v r) : VlOk K B' H0 F H v r := by
  cases r with
  | im d => exact h
  | nw o => exact h
  | lo o => exact f.elim
  | br o => exact f.elim
end
section
variable {K : PySem.W.Frag} {B : Hp} {env : Env} {W : WX} {P : Out → Prop} {t : TA} {rs : List Vl} {r : Vl} {S : List Vl → Res → Prop} {n : Nat} {E : XK}
/-- a call that comes back -/
theorem ev_call (h : EvA K B t env rs) (f : ∀ r ∈ rs, Flat r) (s : S rs (.ok r)) (b : Back r) (hn : rs.length = n := by rfl) : Ev K B (tCall (spX K S n) [] E t) env r := fun F H σ R Q q =>
  h F H σ R _ fun vs F' H' g x => by
    show spX K S n (vs ++ []) H' Q E
    rw [List.append_nil]
    refine ⟨F', rs, .ok r, by rw [x.length]; exact hn, g.kn, (R.bn.step g).tb, x.flat f, s, fun v F2 H2 g2 y => q v F2 H2 (g.trans g2) ((y.back' b).back g.mo)⟩
/-- the end of a call that may raise: what is wished of it -/
def callP (P : Vl → Prop) (X : Addr → Prop) : Res → Prop
  | .ok r => Back r ∧ P r
  | .ex C => X C
/-- an expression that may raise -/
def EvX (K : PySem.W.Frag) (B : Hp) (W : WX) (te : TE) (env : Env) (res : Res) : Prop :=
  ∀ F H σ, RelE K B F H σ env → ∀ Q : VK, (match res with
    | .ok r => ∀ v F' H', Gr F F' H H' → VlOk K B H F' H' v r → Q v H'
    | .ex C => ∀ F' H', Gr F F' H H' → W (.ref C) none σ H') → te σ H Q → te σ H Q
theorem sx_call {res : Res} (h : EvA K B t env rs) (f : ∀ r ∈ rs, Flat r) (s : S rs res) (p : callP (fun r => P (.nx env)) (fun C => P (.ex C env)) res) (hn : rs.length = n := by rfl) : Sx K B W (tDrop (tCallS (spX K S n) (WE W) t)) env P := fun H0 F0 F H σ R D q =>
  h F H σ R.e _ fun vs F' H' g x => by
    have R' := R.step g
    refine ⟨F', rs, res, by rw [x.length]; exact hn, g.kn, (R'.e.bn).tb, x.flat f, s, ?_⟩
    cases res with
    | ok r => exact fun v F2 H2 g2 _ => q _ p.2 F2 H2 σ (R'.step g2)
    | ex C => exact fun F2 H2 g2 => q _ p F2 H2 σ (R'.step g2)
theorem sx_asgCall {res : Res} {i : Nat} (h : EvA K B t env rs) (f : ∀ r ∈ rs, Flat r) (s : S rs res)
    (p : callP (fun r => match r with | .im d => P (.nx (env.set i (.im d))) | .nw o => P (.nx (env.set i (.ow o))) | _ => True) (fun C => P (.ex C env)) res) (hn : rs.length = n := by rfl) : Sx K B W (tAsg (tCallS (spX K S n) (WE W) t) (gName i)) env P := fun H0 F0 F H σ R D q =>
  h F H σ R.e _ fun vs F' H' g x => by
    have R' := R.step g
    refine ⟨F', rs, res, by rw [x.length]; exact hn, g.kn, (R'.e.bn).tb, x.flat f, s, ?_⟩
    cases res with
    | ok r =>
      intro v F2 H2 g2 y
      obtain ⟨b, p⟩ := p
      cases r with
      | im d => exact q _ p F2 H2 _ ((R'.step g2).setI y)
      | nw o => exact q _ p F2 H2 _ (R'.setW (B := B) g2 y)
      | lo o => exact b.elim
      | br o => exact b.elim
    | ex C => exact fun F2 H2 g2 => q _ p F2 H2 σ (R'.step g2)
theorem sx_retCall {res : Res} (h : EvA K B t env rs) (f : ∀ r ∈ rs, Flat r) (s : S rs res) (p : callP (fun r => P (.rt r env)) (fun C => P (.ex C env)) res) (hn : rs.length = n := by rfl) : Sx K B W (tRet (tCallS (spX K S n) (WE W) t)) env P := fun H0 F0 F H σ R D q =>
  h F H σ R.e _ fun vs F' H' g x => by
    have R0 := R.step g
    obtain ⟨Os, R'⟩ := R.step g
    refine ⟨F', rs, res, by rw [x.length]; exact hn, g.kn, R'.e.bn.tb, x.flat f, s, ?_⟩
    cases res with
    | ok r =>
      intro v F2 H2 g2 y
      obtain ⟨b, p⟩ := p
      cases r with
      | im d => exact q _ p F2 H2 σ v (R0.step g2) y
      | nw o => exact q _ p F2 H2 v (R'.gr.trans g2) ((VlOk.back' (B' := B) (r := .nw o) trivial y).back R'.gr.mo)
      | lo o => exact b.elim
      | br o => exact b.elim
    | ex C => exact fun F2 H2 g2 => q _ p F2 H2 σ (R0.step g2)
/-- raise C(..) -/
theorem sx_raise {C : Addr} (p : P (.ex C env)) : Sx K B W (fun _ σ H => (fun σ H (Q : XK) => Q (.ref C) none H) σ H fun cls d H' => W cls d σ H') env P := fun H0 F0 F H σ R D q => q _ p F H σ R
end
/-! ### a def, by its body -/
/-- the ends that a promise takes -/
def endP (res : Res) : Out → Prop
  | .rt r _ => res = .ok r ∧ Back r
  | .nx _ => res = .ok (.im .non)
  | .ex C _ => res = .ex C
  | _ => False
/-- a function x of the module that keeps the promise sp -/
structure FnAt (P : Program) (w : World) (K : PySem.W.Frag) (mg : Str → Option Value) (base : Heap) (k : Nat) (x : Str) (ps : List Str) (sp : Sp) : Prop where
  ex : ∃ (f : Addr) (fd : FuncData), mg x = some (.ref f) ∧ PySem.W.keepIn K (.ref f) = true ∧ Binds K fd ps [] ∧ FnOk P w K mg base (L2N.CX P w) k f fd ps sp
theorem passL {X : Cx} : Passes (L2N.CX X.prog X.w) X E0 := fun _ _ _ _ _ _ _ h => by
  obtain ⟨_, _, _, _, _, _, _, _, _, _, _, _, z⟩ := h
  exact z.elim
section
variable {X : Cx} {k : Nat} {x : Str} {ps : List Str} {sp : Sp} {e : Expr} {es : List Expr} {t : TA} {p pos : Pos} {W : WX}
theorem pe_fn {j : Nat} (F : FnAt X.prog X.w X.K X.mg X.base k x ps sp) (hr : Room j X.A) (hk : k ≤ j) (hg : Gl X x) (ha : PA X (e :: es) t)
    (hdb : (x == ("__debug__" : Str)) = false := by decide) (he : starEach (e :: es) X.env = (false, eval e X.env) :: starEach es X.env := by rfl) (hpl : (backTo pos (starEach es X.env)).any (·.1) = false := by rfl) :
    PE X (.Call (.Name x p) (e :: es) [] pos) (tCall sp [] E0 t) := by
  obtain ⟨f, fd, h1, h2, h3, h4⟩ := F.ex
  exact pe_call h4 (hr.mono hk) hg h1 h2 h3 .nil passL ha hdb he hpl
theorem pe_fnS {j : Nat} (F : FnAt X.prog X.w X.K X.mg X.base k x ps sp) (hr : Room j X.A) (hk : k ≤ j) (hg : Gl X x) (tk : L2N.Takes X W) (ha : PA X (e :: es) t)
    (hdb : (x == ("__debug__" : Str)) = false := by decide) (he : starEach (e :: es) X.env = (false, eval e X.env) :: starEach es X.env := by rfl) (hpl : (backTo pos (starEach es X.env)).any (·.1) = false := by rfl) :
    PE X (.Call (.Name x p) (e :: es) [] pos) (tCallS sp (WE W) t) := by
  obtain ⟨f, fd, h1, h2, h3, h4⟩ := F.ex
  exact pe_callS h4 (hr.mono hk) hg h1 h2 h3 (fun σ => L2N.passAt tk σ) ha hdb he hpl
end
theorem PS.nox {X : Cx} {st : Stmt} {t : TS} (h : PS X.nox st t) : PS X st t := ⟨fun pins s σ H D I hw =>
  wpAny_mono (h.run pins s σ H D (I.wish _) hw) (fun _ _ q => q.unwish) fun _ _ z => False.elim z⟩
theorem start_rel {K : PySem.W.Frag} {F H : Hp} {N ps : List Str} {vs : List V} {rs : List Vl} (k : Kn F H) (tb : LamX.Tabs Tbs.T H) (r : VlL K H H F H vs rs) (hl : vs.length = ps.length) (hN : ps.length ≤ N.length) : RelS K H H F F H (L2.start N vs) (rs.map toSl ++ List.replicate (N.length - rs.length) .un) := by
  refine ⟨fun _ _ => none, ⟨Gr.refl k, ⟨Kn.refl H, tb⟩, ?_, fun i s e => ?_, (fun _ _ _ _ _ z => nomatch z), (fun _ _ _ z => nomatch z), (fun _ _ _ z => nomatch z), (fun _ _ _ z => nomatch z)⟩⟩
  · unfold L2.start
    rw [List.length_append, List.length_append, List.length_map, List.length_map, List.length_replicate, List.length_replicate, r.length]
  · have key : ∀ {vs : List V} {rs : List Vl} {i : Nat} {q : Vl}, VlL K H H F H vs rs → rs[i]? = some q → ∃ v, vs[i]? = some v ∧ VlOk K H H F H v q := by
      intro vs rs i q r
      induction r generalizing i with
      | nil => intro e; simp at e
      | cons a b ih =>
        intro e
        cases i with
        | zero => simp at e; subst e; exact ⟨_, rfl, a⟩
        | succ i => obtain ⟨v, h1, h2⟩ := ih (by simpa using e); exact ⟨v, by simpa using h1, h2⟩
    by_cases hi : i < rs.length
    · rw [List.getElem?_append_left (by rw [List.length_map]; exact hi), List.getElem?_map] at e
      obtain ⟨q, hq, rfl⟩ := Option.map_eq_some_iff.mp e
      obtain ⟨v, hv, x⟩ := key r hq
      have hs : (L2.start N vs)[i]? = some (some v) := by
        unfold L2.start
        rw [List.getElem?_append_left (by rw [List.length_map, r.length]; exact hi), List.getElem?_map, hv] <;> rfl
      cases q with
      | im d => exact ⟨v, hs, x⟩
      | lo o => exact ⟨v, hs, x⟩
      | br o => exact ⟨v, hs, x⟩
      | nw o => trivial
    · rw [List.getElem?_append_right (by rw [List.length_map]; omega), List.getElem?_replicate] at e
      split at e
      · cases e; trivial
      · cases e
section
variable {K : PySem.W.Frag} {B : Hp} {env : Env} {W : WX} {te : TE} {d d' : D} {o : Ow} {C : Addr} {i : Nat} {P : Out → Prop}
/-- the end of a def: return .. (p: ⟨rfl, trivial⟩) -/
theorem sx_retE (p : P (.rt (.im d) env)) (h : Ev K B te env (.im d')) (e : d' = d) : Sx K B W (tRet te) env P := sx_ret h (by rw [e]; exact p)
theorem sx_retWE {ds ds' : List D} (p : P (.rt (.nw (oM (.lst ds))) env)) (h : Ev K B te env (.nw (oM (.lst ds')))) (e : ds' = ds) : Sx K B W (tRet te) env P := sx_retW h (by rw [e]; exact p)
end
section
variable {P : Program} {w : World} {K : PySem.W.Frag} {mg : Str → Option Value} {base : Heap}
/-- THE RULE for a def: its body's term, and what its reading does with data -/
theorem fn_okC {name qual : Str} {params : Arguments} {body : List Stmt} {scope : Scope} {dV kV doc pm cdv ct oc : Value} {an od : Option Addr} {osl : Array (Option Value)} {f : Addr} {N ps : List Str} {k : Nat} {S : List Vl → Res → Prop}
    (lk : K.lookup f = some ⟨oc, od, .func (PySem.W.fnOf name qual params body scope dV kV doc pm an cdv ct), osl⟩) (hcd : PySem.W.codeIn K cdv qual = true) (Sc : FnScope N ps scope) (hN : ps.length ≤ N.length)
    (hbody : ∀ (A : Around) (outer : List PySem.Env) (s : Shared) (H : Hp) (E : XK), Room k (A.deeper (envOfC qual scope s.heap.objs.size f cdv)) →
      ∃ t, PSs (cxOf (L2N.CX P w) P w K mg base N qual scope f cdv A outer s H E) body t ∧
        ∀ rs res, rs.length = ps.length → S rs res → ∀ B, Sx K B (fun cls d _ H => E cls d H) t (rs.map toSl ++ List.replicate (N.length - rs.length) .un) (endP res)) :
    FnOk P w K mg base (L2N.CX P w) (k + 1) f (PySem.W.fnOf name qual params body scope dV kV doc pm an cdv ct) ps (spX K S ps.length) := by
  refine fn_of lk hcd Sc (fun vs H Q E h => ?_) (fun A outer s H vs Q E hr h => ?_)
  · obtain ⟨_, _, _, h, _⟩ := h
    exact h
  · obtain ⟨t, ht, hx⟩ := hbody A outer s H E hr
    obtain ⟨F0, rs, res, hl, k0, t0, r0, s0, q⟩ := h
    refine ⟨t, ht, hx rs res (by rw [← r0.length]; exact hl) s0 H H F0 F0 H _ (start_rel k0 t0 r0 hl hN) _ fun o p => ?_⟩
    cases o with
    | nx e =>
      obtain rfl := p
      intro F H' σ R
      obtain ⟨Os, R⟩ := R
      exact q .non F H' R.gr .non
    | rt r e =>
      obtain ⟨rfl, b⟩ := p
      cases r with
      | im d => exact fun F H' σ v R y => q v F H' (let ⟨_, R⟩ := R; R.gr) y
      | nw o => exact fun F H' v g y => q v F H' g y
      | lo o => exact b.elim
      | br o => exact b.elim
    | ex C e =>
      obtain rfl := p
      exact fun F H' σ R => q F H' (let ⟨_, R⟩ := R; R.gr)
    | bk e => exact p.elim
    | ct e => exact p.elim
theorem fn_ok {x qual : Str} {st : Stmt} {f : Addr} {fd : FuncData} {N ps : List Str} {k : Nat} {S : List Vl → Res → Prop} (F : FunD K x qual (defArgs st) (defBody st) (defScope st) [] [] f fd) (Sc : FnScope N ps (defScope st)) (hm : mg x = some (.ref f))
    (hb : ∀ (kV doc pm : Value) (an : Option Addr) (cdv ct : Value) (us : List Value), us.length = ps.length → bindArgs (PySem.W.fnOf x qual (defArgs st) (defBody st) (defScope st) .none kV doc pm an cdv ct) ⟨us, []⟩ = pure (ps.zip us))
    (hN : ps.length ≤ N.length)
    (hbody : ∀ (cdv : Value) (A : Around) (outer : List PySem.Env) (s : Shared) (H : Hp) (E : XK), Room k (A.deeper (envOfC qual (defScope st) s.heap.objs.size f cdv)) →
      ∃ t, PSs (cxOf (L2N.CX P w) P w K mg base N qual (defScope st) f cdv A outer s H E) (defBody st) t ∧
        ∀ rs res, rs.length = ps.length → S rs res → ∀ B, Sx K B (fun cls d _ H => E cls d H) t (rs.map toSl ++ List.replicate (N.length - rs.length) .un) (endP res)) :
    FnAt P w K mg base (k + 1) x ps (spX K S ps.length) := by
  refine ⟨f, fd, hm, F.kp, F.bindsN hb, ?_⟩
  obtain ⟨oc, od, dV, kV, doc, pm, an, cdv, ct, osl, rfl, lk, hcd, _, _⟩ := F.ex
  exact fn_okC lk hcd Sc hN (hbody cdv)
end

/-! ### things of one's own, written -/
section
variable {K : PySem.W.Frag} {B : Hp} {env : Env} {W : WX} {P : Out → Prop} {te ty : TE} {d : D} {ds es : List D} {kvs : List (Str × D)} {i j : Nat}
theorem cell_at {D : Addr} {o : HO} : cell D o D = some o := upd_same
theorem sx_append (hi : env[i]? = some (.ow (oM (.lst ds)))) (h : Ev K B te env (.im d)) (hl : ds.length < sizeLine) (p : P (.nx (env.set i (.ow (oM (.lst (ds ++ [d]))))))) :
    Sx K B W (tDrop (tBM K "list" rAppend (tVar i) (tCons te tNil))) env P := fun H0 F0 F H σ R D q => by
  obtain ⟨Os, R⟩ := R
  obtain ⟨v, ev, l, xs, rfl, hO, r⟩ := R.sl i _ hi
  have hH := (R.oh i _ _ hO).1
  refine ⟨.ref l, ev, .inl ⟨rfl, xs, .inl (.inl hH)⟩, ?_⟩
  refine h F H σ R.e _ fun y F' H' g ry => ?_
  have R' := R.step g
  refine ⟨l, xs, y, rfl, rfl, g.hh _ _ nt_lst hH, by rw [r.length]; exact hl, q _ p F' _ σ ⟨_, R'.write (O' := upd (Os i) l (.lst (xs ++ [y]))) (List.getElem?_eq_some_iff.mp hi).1 ev (fun a ha => ?_) (fun a u e => ?_) (fun a u e => ?_) ?_⟩⟩
  · exact upd_ne (fun z => by rw [z, hO] at ha; cases ha)
  · by_cases z : a = l
    · exact ⟨_, by rw [z]; exact hO⟩
    · rw [upd_ne z] at e; exact ⟨_, e⟩
  · by_cases z : a = l
    · rw [z, upd_same] at e
      rw [z, upd_same]
      cases e
      exact ⟨rfl, by first | exact nx_lst | exact nx_dK⟩
    · rw [upd_ne z] at e ⊢
      exact R'.oh i a u e
  · exact ⟨l, _, rfl, upd_same, (r.mono g.fk).app (.cons ry .nil)⟩
theorem sx_extend (hi : env[i]? = some (.ow (oM (.lst ds)))) (h : Ev K B te env (.ob (.lst es))) (hl : ds.length + es.length ≤ sizeLine) (p : P (.nx (env.set i (.ow (oM (.lst (ds ++ es))))))) :
    Sx K B W (tDrop (tBM K "list" rExtend (tVar i) (tCons te tNil))) env P := fun H0 F0 F H σ R D q => by
  obtain ⟨Os, R⟩ := R
  obtain ⟨v, ev, l, xs, rfl, hO, r⟩ := R.sl i _ hi
  have hH := (R.oh i _ _ hO).1
  refine ⟨.ref l, ev, .inl ⟨rfl, xs, .inl (.inl hH)⟩, ?_⟩
  refine h F H σ R.e _ fun y F' H' g ry => ?_
  have R' := R.step g
  obtain ⟨l', ys, rfl, hy, r'⟩ := ry
  refine ⟨l, l', xs, ys, rfl, rfl, g.hh _ _ nt_lst hH, hy, by rw [r.length, r'.length]; exact hl, q _ p F' _ σ ⟨_, R'.write (O' := upd (Os i) l (.lst (xs ++ ys))) (List.getElem?_eq_some_iff.mp hi).1 ev (fun a ha => ?_) (fun a u e => ?_) (fun a u e => ?_) ?_⟩⟩
  · exact upd_ne (fun z => by rw [z, hO] at ha; cases ha)
  · by_cases z : a = l
    · exact ⟨_, by rw [z]; exact hO⟩
    · rw [upd_ne z] at e; exact ⟨_, e⟩
  · by_cases z : a = l
    · rw [z, upd_same] at e
      rw [z, upd_same]
      cases e
      exact ⟨rfl, by first | exact nx_lst | exact nx_dK⟩
    · rw [upd_ne z] at e ⊢
      exact R'.oh i a u e
  · exact ⟨l, _, rfl, upd_same, (r.mono g.fk).app r'⟩
/-- an expression that writes a thing of one's own -/
def EvS (K : PySem.W.Frag) (B : Hp) (te : TE) (env : Env) (d : D) (env' : Env) : Prop :=
  ∀ H0 F0 F H σ, RelS K B H0 F0 F H σ env → ∀ Q : VK, (∀ v F' H', RelS K B H0 F0 F' H' σ env' → Rp K F' v d → Q v H') → te σ H Q
theorem sx_asgS {env' : Env} (h : EvS K B te env d env') (p : P (.nx (env'.set j (.im d)))) : Sx K B W (tAsg te (gName j)) env P := fun H0 F0 F H σ R D q =>
  h H0 F0 F H σ R _ fun v F' H' R' r => q _ p F' H' _ (R'.setI r)
theorem sx_dropS {env' : Env} (h : EvS K B te env d env') (p : P (.nx env')) : Sx K B W (tDrop te) env P := fun H0 F0 F H σ R D q =>
  h H0 F0 F H σ R _ fun v F' H' R' r => q _ p F' H' _ R'
/-- x.pop() -/
theorem es_pop (hi : env[i]? = some (.ow (oM (.lst (ds ++ [d]))))) : EvS K B (tBM0 K "list" rPop (tVar i)) env d (env.set i (.ow (oM (.lst ds)))) := fun H0 F0 F H σ R Q q => by
  obtain ⟨Os, R⟩ := R
  obtain ⟨v, ev, l, xs, rfl, hO, r⟩ := R.sl i _ hi
  have hH := (R.oh i _ _ hO).1
  have hlen := r.length
  rw [List.length_append, List.length_singleton] at hlen
  obtain ⟨y, hy, ry⟩ := r.get (i := ds.length) (d := d) (by simp)
  refine ⟨.ref l, ev, .inl ⟨rfl, xs, .inl (.inl hH)⟩, l, xs, y, rfl, rfl, hH, by rw [hlen]; exact hy, q y F _ ⟨_, R.write (O' := upd (Os i) l (.lst xs.dropLast)) (List.getElem?_eq_some_iff.mp hi).1 ev (fun a ha => ?_) (fun a u e => ?_) (fun a u e => ?_) ?_⟩ ry⟩
  · exact upd_ne (fun z => by rw [z, hO] at ha; cases ha)
  · by_cases z : a = l
    · exact ⟨_, by rw [z]; exact hO⟩
    · rw [upd_ne z] at e; exact ⟨_, e⟩
  · by_cases z : a = l
    · rw [z, upd_same] at e
      rw [z, upd_same]
      cases e
      exact ⟨rfl, by first | exact nx_lst | exact nx_dK⟩
    · rw [upd_ne z] at e ⊢
      exact R.oh i a u e
  · refine ⟨l, _, rfl, upd_same, ?_⟩
    have z := r.take ds.length
    rw [List.take_left] at z
    rw [List.dropLast_eq_take, hlen]
    exact z
/-- x.pop(k) -/
theorem es_popAt {k : Int} {m : Nat} (hi : env[i]? = some (.ow (oM (.lst ds)))) (h : Ev K B te env (.im (.int k))) (h1 : -(2 ^ 63) ≤ k) (h2 : k < 2 ^ 63) (hs : seqIndex? k ds.length = some m) (hd : ds[m]? = some d) :
    EvS K B (tBM K "list" rPopAt (tVar i) (tCons te tNil)) env d (env.set i (.ow (oM (.lst (ds.eraseIdx m))))) := fun H0 F0 F H σ R Q q => by
  obtain ⟨Os, R⟩ := R
  obtain ⟨v, ev, l, xs, rfl, hO, r⟩ := R.sl i _ hi
  have hH := (R.oh i _ _ hO).1
  obtain ⟨y, hy, ry⟩ := r.get hd
  refine ⟨.ref l, ev, .inl ⟨rfl, xs, .inl (.inl hH)⟩, ?_⟩
  refine h F H σ R.e _ fun z F' H' g rz => ?_
  obtain rfl := Rp.inv_int rz
  have R' := R.step g
  refine ⟨l, xs, k, m, y, rfl, rfl, g.hh _ _ nt_lst hH, h1, h2, by rw [r.length]; exact hs, hy, q y F' _ ⟨_, R'.write (O' := upd (Os i) l (.lst (xs.eraseIdx m))) (List.getElem?_eq_some_iff.mp hi).1 ev (fun a ha => ?_) (fun a u e => ?_) (fun a u e => ?_) ?_⟩ (ry.mono g.fk)⟩
  · exact upd_ne (fun z => by rw [z, hO] at ha; cases ha)
  · by_cases z : a = l
    · exact ⟨_, by rw [z]; exact hO⟩
    · rw [upd_ne z] at e; exact ⟨_, e⟩
  · by_cases z : a = l
    · rw [z, upd_same] at e
      rw [z, upd_same]
      cases e
      exact ⟨rfl, by first | exact nx_lst | exact nx_dK⟩
    · rw [upd_ne z] at e ⊢
      exact R'.oh i a u e
  · exact ⟨l, _, rfl, upd_same, (r.mono g.fk).eraseIdx m⟩
/-- d[k] = v, d a slot of one's own -/
theorem sx_dput {s : Str} (hi : env[i]? = some (.ow (oM (.dct kvs)))) (hv : Ev K B te env (.im d)) (hy : Ev K B ty env (.im (.str s))) (hl : kvs.length < sizeLine) (p : P (.nx (env.set i (.ow (oM (.dct (kput kvs s d))))))) :
    Sx K B W (sDPut (tVar i) ty te) env P := fun H0 F0 F H σ R D q =>
  hv F H σ R.e _ fun v F1 H1 g1 rv => by
    have R1 := R.step g1
    obtain ⟨Os, R1⟩ := R1
    obtain ⟨x, ev, l, ks, rfl, hO, r⟩ := R1.sl i _ hi
    refine ⟨.ref l, ev, ?_⟩
    refine hy F1 H1 σ R1.e _ fun y F2 H2 g2 ry => ?_
    obtain rfl := Rp.inv_str ry
    have R2 := R1.step g2
    have hH := (R2.oh i _ _ hO).1
    refine ⟨l, _, rfl, DPut.k (k := Sum.inr s) hH (by rw [r.length]; exact hl), q _ p F2 _ σ ⟨_, R2.write (O' := upd (Os i) l (.dK (putK ks (Sum.inr s) v))) (List.getElem?_eq_some_iff.mp hi).1 ev (fun a ha => ?_) (fun a u e => ?_) (fun a u e => ?_) ?_⟩⟩
    · exact upd_ne (fun z => by rw [z, hO] at ha; cases ha)
    · by_cases z : a = l
      · exact ⟨_, by rw [z]; exact hO⟩
      · rw [upd_ne z] at e; exact ⟨_, e⟩
    · by_cases z : a = l
      · rw [z, upd_same] at e
        rw [z, upd_same]
        cases e
        exact ⟨rfl, nx_dK⟩
      · rw [upd_ne z] at e ⊢
        exact R2.oh i a u e
    · exact ⟨l, _, rfl, upd_same, (r.mono g2.fk).put (Rp.mono g2.fk rv)⟩
/-- d.pop(k), k there -/
theorem es_dpop {s : Str} (hi : env[i]? = some (.ow (oM (.dct kvs)))) (hy : Ev K B ty env (.im (.str s))) (hk : kget kvs s = some d) : EvS K B (tDPop1 (tVar i) ty) env d (env.set i (.ow (oM (.dct (kdrop kvs s))))) := fun H0 F0 F H σ R Q q => by
  obtain ⟨Os, R⟩ := R
  obtain ⟨v, ev, l, ks, rfl, hO, r⟩ := R.sl i _ hi
  have hH := (R.oh i _ _ hO).1
  refine ⟨.ref l, ev, l, rfl, .inl ⟨ks, .inl hH⟩, ?_⟩
  refine hy F H σ R.e _ fun y F' H' g ry => ?_
  obtain rfl := Rp.inv_str ry
  have R' := R.step g
  obtain ⟨z, hz, rz⟩ := r.val hk
  refine ⟨ks, Sum.inr s, z, g.hh _ _ nt_dK hH, rfl, hz, q z F' _ ⟨_, R'.write (O' := upd (Os i) l (.dK (dropK ks (Sum.inr s)))) (List.getElem?_eq_some_iff.mp hi).1 ev (fun a ha => ?_) (fun a u e => ?_) (fun a u e => ?_) ?_⟩ (rz.mono g.fk)⟩
  · exact upd_ne (fun z => by rw [z, hO] at ha; cases ha)
  · by_cases z : a = l
    · exact ⟨_, by rw [z]; exact hO⟩
    · rw [upd_ne z] at e; exact ⟨_, e⟩
  · by_cases z : a = l
    · rw [z, upd_same] at e
      rw [z, upd_same]
      cases e
      exact ⟨rfl, by first | exact nx_lst | exact nx_dK⟩
    · rw [upd_ne z] at e ⊢
      exact R'.oh i a u e
  · exact ⟨l, _, rfl, upd_same, (r.mono g.fk).drop⟩
end
end NM
/-! Work within an except suite: a list's end, sum, a comprehension. -/
namespace NM
open PySem PySem.Spec PyProof.Rows L2
section
variable {prog : Program} {w : World} {A : Around} {E : Value → Shared → Prop} {s : Shared}
/-- the end of a list's walk while an exception is handled -/
theorem list_end_hot {it l x1 : Addr} {i : Nat} {items : Array Value} {Q : Option Value → Shared → Prop} (hot : HotX.HotAt A x1 s.heap) (hne : x1 ≠ it)
    (hit : s.heap.IsListIter it l i) (hl : s.heap.IsList l items) (hx : items[i]? = none)
    (hQ : ∀ h', Heap.ExtBut it s.heap h' → Q none { s with heap := h' }) : wpAny (model prog w) A (pyNext (.ref it)) Q E s := by
  obtain ⟨hh, o1, vs1, h1, d1, c1⟩ := hot
  obtain ⟨o, ho, hc, hd⟩ := id hit
  obtain ⟨ol, hol, _, nl, hdl⟩ := hl
  unfold pyNext
  apply wpAny_bind
  apply wpAny_attempt
  refine wpAny_callSpecial?_slot (name := Str.ofString "__next__") hit.typeIs slot_listiter_next ?_
  refine wpAny_call_entry slot_listiter_next hit.typeIs entry_listiter_next ?_ (args_listiter_next _)
  show wpAny _ _ (field (.ref it) 0 >>= _) _ _ s
  apply wpAny_bind
  refine wpAny_field ho hd (x := .ref l) rfl ?_
  show wpAny _ _ (if (Value.ref l == Value.none) = true then _ else _) _ _ s
  have nn : ¬ ((Value.ref l == Value.none) = true) := Bool.false_ne_true
  rw [if_neg nn]
  show wpAny _ _ (field (.ref it) 1 >>= _) _ _ s
  apply wpAny_bind
  refine wpAny_field ho hd (x := .int i 0) rfl ?_
  show wpAny _ _ (seqItems? (.ref l) >>= _) _ _ s
  apply wpAny_bind
  refine wpAny_seqItems hol hdl ?_
  simp only [Int.toNat_natCast, hx]
  apply wpAny_bind
  apply wpAny_rule
  apply wpAny_bind
  refine wpAny_setField ho hd (by simp) ?_
  have k1 : ∀ b u, b ≠ it → s.heap.get? b = some u → (s.heap.update it (Obj.mapFields (·.setIfInBounds 0 Value.none))).get? b = some u := fun b u n e => by
    rw [Heap.get?_update_other _ _ (Ne.symm n)]; exact e
  generalize s.heap.update it (Obj.mapFields (·.setIfInBounds 0 Value.none)) = g1 at k1 ⊢
  show wpAny _ _ (newExc (.type "StopIteration") [] >>= _) _ _ _
  apply wpAny_bind
  simp only [newExc, newTuple]
  apply wpAny_bind
  refine wpAny_newObj_type ?_ (by size_fits)
  refine wpAny_bind (m := firstArgMember _ _) ?_
  refine wpAny_of_eq (a := Value.none) (by first | rfl | (simp only [firstArgMember]; rfl)) ?_
  refine wpAny_newObj_type ?_ (by size_fits)
  have x1in := Heap.get?_push_of_some { cls := .type "StopIteration", data := .fields #[.ref g1.objs.size, .none, .none, .none, .bool false, .none] } (Heap.get?_push_of_some { cls := .type "tuple", data := .seq #[] } (k1 x1 _ hne h1))
  refine HotX.raiseNew_hot (x1 := x1) ⟨hh, o1, vs1, Heap.get?_push_of_some _ (Heap.get?_push_of_some _ (k1 x1 _ hne h1)), d1, c1⟩ ?_ (Heap.get?_push_size _ rfl) rfl ?_ ?_
  · exact Nat.ne_of_lt (Heap.lt_size (Heap.get?_push_of_some _ (k1 x1 _ hne h1)))
  · first | (simp; done) | (simp; omega) | (simp only [Array.size_append]; simp; omega)
  · apply wpAny_bind
    refine wpAny_isInstance (T := "StopIteration") (b := true) ⟨_, Heap.get?_update_self _ (Heap.get?_push_size _ rfl) rfl, rfl⟩ isSubtype_stop ?_
    apply wpAny_pure
    refine hQ _ fun b u n e => ?_
    have z := k1 b u n e
    rw [Heap.get?_update_other _ _ (Nat.ne_of_gt (Heap.lt_size (Heap.get?_push_of_some _ z)))]
    exact Heap.get?_push_of_some _ (Heap.get?_push_of_some _ z)
/-- a walk over a list while x1 is handled -/
theorem walksH {x1 : Addr} {o1 : Obj} {vs1 : Array Value} (hh : A.handled = some (.ref x1)) (d1 : o1.data = .fields vs1) (c1 : vs1[2]? = some .none) (I l : Addr) (hne : l ≠ I) (hx : x1 ≠ I) (items : Array Value) :
    Walks prog w A I [I, l, x1] [I] items.size (fun i v => items[i]? = some v) (fun i h => h.IsListIter I l i ∧ h.IsList l items ∧ h.get? x1 = some o1) where
  sub := fun b hb => by simp at hb; simp [hb]
  frame := fun i h h' st k => ⟨st.1.at fun o e => k I (by simp) o e, st.2.1.at fun o e => k l (by simp) o e, k x1 (by simp) _ st.2.2⟩
  item := fun i s Q E hi st hQ => by
    refine wpAny_pyNext_list_item st.1 st.2.1 (x := items[i]) (by simp [hi]) fun h' it' sb => ?_
    exact hQ _ h' s.toks (by simp [hi]) ⟨it', st.2.1.extBut sb.extBut hne, sb.extBut x1 o1 hx st.2.2⟩ fun b o hb e => sb.extBut b o (fun h => hb (by simp [h])) e
  done := fun s Q E st hQ => list_end_hot ⟨hh, o1, vs1, st.2.2, d1, c1⟩ hx st.1 st.2.1 (by simp) fun h' e' => hQ h' s.toks fun b o hb e => e' b o (fun h => hb (by simp [h])) e
  self := fun _ _ _ _ st hQ => wpAny_pyIter_listiter st.1 hQ
/-- sum(xs) there -/
theorem sumH {x1 l : Addr} {o1 : Obj} {vs1 : Array Value} {its : List Value} {ns : List Int} {Q : Value → Shared → Prop} (hh : A.handled = some (.ref x1)) (g1 : s.heap.get? x1 = some o1) (d1 : o1.data = .fields vs1) (c1 : vs1[2]? = some .none)
    (hl : s.heap.IsList l its.toArray) (hi : IntsAre its ns) (h : ∀ h' tk t', (∀ b o, s.heap.get? b = some o → h'.get? b = some o) → Q (.int ns.sum t') { s with heap := h', toks := tk }) :
    wpAny (model prog w) A (call (.builtin "sum") [.ref l]) Q E s := by
  obtain ⟨xs, e⟩ := hi.allInts.items
  have hn : numsOf (intItems xs).toList = ns := by rw [← e]; exact hi.numsOf
  rw [nums_intItems] at hn
  rw [e] at hl
  refine call_sum_walkG (iter_intList hl fun s₂ e2 st hfp hlI => ?_)
  subst e2
  have x1s : x1 < s.heap.objs.size := Heap.lt_size g1
  refine ⟨_, _, _, _, _, _, numAt xs, rfl, walksH (A := A.in1) hh d1 c1 _ l hlI (Nat.ne_of_lt x1s) (intItems xs), ⟨st.1, st.2, Heap.get?_push_of_some _ g1⟩, fun b hb => ?_, (fun _ _ => intItems_at), fun h' tk t' hk => ?_⟩
  · simp only [List.mem_cons, List.not_mem_nil, or_false] at hb
    rcases hb with rfl | rfl | rfl
    · exact hfp _ (by simp)
    · exact hfp _ (by simp)
    · exact Nat.lt_of_lt_of_le x1s (by first | (rw [Heap.size_push]; exact Nat.le_succ _) | omega)
  · have q := h h' tk t' (old_kept hk)
    rw [← hn] at q
    simpa [intItems, preSum_eq, List.take_of_length_le] using q
end
section
variable {X : Cx}
/-- [elt for tg in l], l a list, while p is handled -/
theorem pe_lcH {p : Addr × Obj} {elt tg l : Expr} {scope : Scope} {own : List (Str × Nat)} {pos : Pos} {g : TG} {te tl : TE} (hot : L2H.Hot1 X.A p) (hp : p ∈ X.pn) (hN : X.N.Nodup) (hl : PE X l tl) (ok : BlkOk X.N X.env.scope scope own)
    (hg : ∀ (s : Shared) (H : Hp) (C : Addr) (cl : List (Str × Addr)) (fp : List Addr), PG (X.blk s H scope (compEnvC scope cl C X.env) fp) tg g)
    (he : ∀ (s : Shared) (H : Hp) (C : Addr) (cl : List (Str × Addr)) (fp : List Addr), PE (X.blk s H scope (compEnvC scope cl C X.env) fp) elt te)
    (hs : ∀ x, foldedSetIterable l X.env x = pure x := by intro _; rfl) :
    PE X (.ListComp elt [⟨tg, l, [], 0⟩] scope pos) (tLc (iList X.K tl) g tYes te (own.map (·.2))) := by
  refine ⟨fun pins s σ H Q I h => ?_⟩
  obtain ⟨hh, v1, d1, c1⟩ := hot
  have free : ∀ y ∈ scope.names, y.2 = .free → ∃ c, X.env.cells.lookup y.1 = some c := fun y hy e => (ok.free y hy e).elim (fun k => I.ok.has _ (.inl k)) fun k => I.ok.has _ (.inr k)
  rw [eval_ListComp]
  refine wpAny_comprehension_free (use := none) rfl hs (closure_ok free) ok.kind (fun y hy e => by rw [ok.uniq y hy, e]) ?_
  refine thn (hl.run pins s σ H _ I h) fun v sA ⟨x, HA, IA, rx, a, ex, ⟨xs0, hq0⟩, q⟩ => ?_
  subst ex
  obtain rfl : v = Value.ref a := rx
  obtain ⟨its0, rv0, pl0, hz0⟩ := IA.list hq0
  refine wpAny_pyIter_list pl0.isList ?_
  -- the iterator
  generalize hit : sA.heap.objs.size = it
  have IB : Inv X pins σ HA { sA with heap := sA.heap.push { cls := .type "list_iterator", data := .fields #[.ref a, .int 0 0] } } := IA.kept (t' := sA.toks) fun b o e => Heap.get?_push_of_some _ e
  have itB : (sA.heap.push { cls := .type "list_iterator", data := .fields #[.ref a, .int 0 0] }).IsListIter it a 0 := by
    rw [← hit]
    exact ⟨_, Heap.get?_push_size _ rfl, rfl, rfl⟩
  have fB : FpOk X pins HA it := by
    rw [← hit]
    exact IA.fpOk (Nat.le_refl _) (IA.hok.fresh (Nat.le_refl _))
  generalize hsB : ({ sA with heap := sA.heap.push { cls := .type "list_iterator", data := .fields #[.ref a, .int 0 0] } } : Shared) = sB at IB ⊢
  have itB : sB.heap.IsListIter it a 0 := by rw [← hsB]; exact itB
  refine wpAny_newObj_type (newEnv_comp ?_) (by show 0 ≤ sizeLine; decide)
  generalize hD : sB.heap.objs.size = D
  obtain ⟨W, ⟨m0, w0⟩, turn⟩ := q D (IB.hok.fresh (Nat.le_of_eq hD))
  -- the new list
  generalize hsC : ({ sB with heap := sB.heap.push { cls := .type "list", data := .seq ([] : List Value).toArray } } : Shared) = sC
  have hC : sC.heap = sB.heap.push { cls := .type "list", data := .seq ([] : List Value).toArray } := by rw [← hsC]
  have IC : Inv X pins σ (upd HA D (.lst [])) sC := by
    rw [← hsC]
    exact IB.laid (t' := sB.toks) (fun b o e => Heap.get?_push_of_some _ e) (Nat.le_of_eq hD) ⟨Nat.zero_le _, [], 0, .nil, by rw [← hD]; exact Heap.get?_push_size _ rfl⟩
  have itC : sC.heap.IsListIter it a 0 := itB.at fun o e => by rw [hC]; exact Heap.get?_push_of_some _ e
  have ltB : it < sB.heap.objs.size := by
    obtain ⟨o, e, _⟩ := itB
    exact Heap.lt_size e
  have fC : ∀ b ∈ [it], FpOk X pins (upd HA D (.lst [])) b ∧ b < sC.heap.objs.size := fun b hb => by
    obtain rfl : b = it := by simpa using hb
    refine ⟨⟨?_, fB.2⟩, by rw [hC, Heap.size_push]; exact Nat.lt_succ_of_lt ltB⟩
    rw [upd_ne (by rw [← hD]; exact Nat.ne_of_lt ltB)]
    exact fB.1
  have ID := block_start IC ok hN fC
  -- the block's context
  have pg := hg sC (upd HA D (.lst [])) sC.heap.objs.size (cellsFrom (sC.heap.objs.size + 1) scope.names (cloFrom X.env.cells scope.names [])) [it]
  have pe := he sC (upd HA D (.lst [])) sC.heap.objs.size (cellsFrom (sC.heap.objs.size + 1) scope.names (cloFrom X.env.cells scope.names [])) [it]
  show codeAny _ _ (.compStart (.ListComp elt [⟨tg, l, [], 0⟩] scope pos) 0 (.ref it) (.ref D) (compEnvC scope (cellsFrom (sC.heap.objs.size + 1) scope.names (cloFrom X.env.cells scope.names [])) sC.heap.objs.size X.env)) (compPost (model X.prog X.w) X.A X.xe none _ (.ref D) sC.heap.objs.size) { sC with heap := pushCells (sC.heap.push { cls := .type "dict", data := .dict #[] }) scope.names }
  generalize hcv : compEnvC scope (cellsFrom (sC.heap.objs.size + 1) scope.names (cloFrom X.env.cells scope.names [])) sC.heap.objs.size X.env = cv at ID pg pe ⊢
  have cvL : cv.locals = sC.heap.objs.size := by subst hcv; rfl
  have nitD : it ≠ D := by rw [← hD]; exact Nat.ne_of_lt ltB
  generalize hHC : upd HA D (.lst []) = HC at IC ID pg pe w0 fC
  have hit0 : HC it = none := (fC it (by simp)).1.1
  generalize hsD : ({ sC with heap := pushCells (sC.heap.push { cls := .type "dict", data := .dict #[] }) scope.names } : Shared) = sD at ID ⊢
  have itD : sD.heap.IsListIter it a 0 := itC.at fun o e => by rw [← hsD]; exact pushCells_keeps _ _ _ _ (Heap.get?_push_of_some _ e)
  -- what is handled stands through the block
  have pC := IC.pin p (List.mem_append_left _ hp)
  have pit : p.1 ≠ it := (fC it (by simp)).1.2.2.2.2.2 p (List.mem_append_left _ hp)
  have pfr : p.1 ∉ frs X.stack := fun z => (List.mem_cons.mp (IC.stkSub p.1 z)).elim pC.2.2.1 pC.2.2.2.1
  have warm : ∀ {σ' : L2.St} {H' : Hp} {s' : Shared} {pn' : List (Addr × Obj)}, Inv (X.blk sC HC scope cv [it]) pn' σ' H' s' → HotX.HotAt X.A p.1 s'.heap := fun {σ' H' s' pn'} I' =>
    ⟨hh, p.2, v1, I'.base.keep p.1 p.2 pC.1 pC.2.1 pfr (fun z => pit (by simpa using (show p.1 ∈ [it] from z))), d1, c1⟩
  have fine : ∀ {σ' : L2.St} {H' : Hp} {s' : Shared}, Inv (X.blk sC HC scope cv [it]) [] σ' H' s' → H' it = none → FpOk (X.blk sC HC scope cv [it]) [] H' it := fun {σ' H' s'} I' n =>
    ⟨n, (I'.ok.exf it (by simp)).1, I'.ok.exfs it (by simp), .inl (by simp), fun x c e => (I'.ok.exf it (by simp)).2 x c e, fun q hq => absurd (show q ∈ ([] : List (Addr × Obj)) ++ [] from hq) (by simp)⟩
  have loop : codeAny (model X.prog X.w) X.A (.compLoop (.ListComp elt [⟨tg, l, [], 0⟩] scope pos) 0 (.ref it) (.ref D) cv) (compPost (model X.prog X.w) X.A X.xe none (EP X pins σ Q) (.ref D) sC.heap.objs.size) sD := by
    refine compLoop_any (fun n s' => ∃ i H', Inv (X.blk sC HC scope cv [it]) [] (L2.wipe σ (own.map (·.2))) H' s' ∧ s'.heap.IsListIter it a i ∧ H' it = none ∧ W i n H') ?_ m0 ⟨0, HC, ID, itD, hit0, w0⟩
    rintro n s5 ⟨i, H5, I5, it5, n5, w5⟩
    obtain ⟨f0, f1, f2, f3, f4, f5⟩ := fine I5 n5
    rcases turn i n H5 w5 with ⟨⟨ys, hys, le⟩, fin⟩ | ⟨⟨ys, y, hys, hy⟩, Nx, hNx, step⟩
    · obtain ⟨its, rv, pl, _⟩ := I5.list hys
      have hlen := rv.length
      refine list_end_hot (warm I5) pit it5 pl.isList (by simp; omega) fun h' eb => ?_
      have I6 : Inv (X.blk sC HC scope cv [it]) [] (L2.wipe σ (own.map (·.2))) H5 { s5 with heap := h' } := I5.turned (t' := s5.toks) (fun b o hb e => eb b o hb e) f0 f1 f3 f4 f5
      have I7 : Inv X pins σ H5 { s5 with heap := h' } := IC.call' (ch := [it]) I6.os I6.base I6.hok I6.bare fun b hb => ⟨(fC b hb).1.2.2.2.1, (fC b hb).1.2.1, (fC b hb).1.2.2.2.2.1, (fC b hb).1.2.2.2.2.2⟩
      have nC : H5 sC.heap.objs.size = none := by
        have z : H5 cv.locals = none := I6.free
        rw [cvL] at z
        exact z
      obtain ⟨m, hn, _⟩ := I6.loc
      have hn : h'.Ns cv.locals m := hn
      rw [cvL] at hn
      refine ⟨m, hn, fun h'' sb => ?_⟩
      obtain ⟨e0, e1, e2, e3, e4, e5⟩ := IC.fpOk (Nat.le_refl _) nC
      exact ⟨.ref D, H5, I7.turned (t' := s5.toks) (fun b o hb e => (sb.2 b hb).trans e) e0 e1 e3 e4 e5, rfl, fin⟩
    · obtain ⟨its, rv, pl, _⟩ := I5.list hys
      obtain ⟨u, hu, ru⟩ := rv.get hy
      refine wpAny_pyNext_list_item it5 pl.isList (x := u) (by simpa using hu) fun h' it6 sb => ?_
      have I6 : Inv (X.blk sC HC scope cv [it]) [] (L2.wipe σ (own.map (·.2))) H5 { s5 with heap := h' } := I5.turned (t' := s5.toks) (fun b o hb e => (sb.2 b hb).trans e) f0 f1 f3 f4 f5
      obtain ⟨o6, e6, c6, dd6⟩ := id it6
      refine go_of (s := { s5 with heap := h' }) e6 c6 dd6 (by decide) ?_
      have I7 := I6.pinned (fp := [it]) (fun b hb => by obtain rfl : b = it := by simpa using hb
                                                        exact ⟨f0, f1, f2, f3, f4, f5⟩) (fun b hb => by
        obtain rfl : b = it := by simpa using hb
        exact ⟨o6, e6, fun v z => by rw [dd6] at z; cases z⟩)
      refine thnF (pg.run _ _ _ H5 y u _ I7 ru (step y H5 ⟨rfl, fun zs hz => by rw [I5.list_inj hz hys]; exact hy⟩)) fun _ s8 ⟨σ8, H8, I8, hw8, q8⟩ => ?_
      refine thnF ((pts_nil (X := X.blk sC HC scope cv [it])).run _ s8 σ8 H8 _ I8 q8) fun b s9 ⟨H9, I9, q9⟩ => ?_
      have fin : ∀ {s' : Shared} {H' : Hp}, Inv (X.blk sC HC scope cv [it]) ([] ++ pinsAt [it] h') σ8 H' s' → Nx H' → ∃ m, m < n ∧ ∃ i H', Inv (X.blk sC HC scope cv [it]) [] (L2.wipe σ (own.map (·.2))) H' s' ∧ s'.heap.IsListIter it a i ∧ H' it = none ∧ W i m H' := fun {s' H'} I' nx => by
        obtain ⟨m', lt, w'⟩ := hNx H' nx
        have z := I'.pin (it, o6) (List.mem_append_right _ (List.mem_append_right _ (mem_pinsAt (by simp) e6)))
        have hl : (L2.wipe σ (own.map (·.2))).length = σ8.length := by rw [← hw8, wipe_length]
        refine ⟨m', lt, i + 1, H', (I'.unpinned (pins := [])).weak hl (fun j v e => ?_), it6.at fun o e => ?_, z.2.1, w'⟩
        · rw [← hw8] at e
          exact (wipe_some e).1
        · rw [e6] at e
          cases e
          exact z.1
      cases b with
      | false =>
        simp only [Bool.false_eq_true, if_false] at q9 ⊢
        exact fin I9 q9
      | true =>
        simp only [if_true] at q9 ⊢
        refine thnF (pe.run _ s9 σ8 H9 _ I9 q9) fun z s10 ⟨yv, H10, I10, r10, acc, hD10, hz10, nx⟩ => ?_
        exact app_ok (X := X.blk sC HC scope cv [it]) I10 hD10 hz10 r10 fun s11 I11 => fin I11 nx
  exact codeAny_compStart_list loop (wpAny_pyIter_listiter itD loop)
end
end NM
/-! What is told of a deed: its answer, or the word for what it raised. -/
namespace NM
open PySem PySem.Spec PyProof.Rows L2
variable [Tbs]
/-! ### by the pinned exception -/
section
variable {X : Cx} {p : Addr × Obj}
theorem cr_sumH (hot : L2H.Hot1 X.A p) (hp : p ∈ X.pn) : CallR X (.builtin "sum") (rSum X.K) := by
  intro pins s σ H vs us Q I r h
  obtain ⟨a, ns, rfl, hs, q⟩ := h
  obtain ⟨its, rv, hl, _⟩ := I.list hs
  obtain ⟨hh, v1, d1, c1⟩ := hot
  rw [Vals.ref1 r]
  exact sumH hh (I.pin p (List.mem_append_left _ hp)).1 d1 c1 hl.isList rv.ints fun h' tk t' hk => ⟨.int _, H, I.kept hk, ⟨_, rfl⟩, q⟩
theorem call_isP {D : Addr} (hp : p ∈ X.pn) (C : ExcC X.K D) (hz : Zc (.ref D) none p.2) (hf : ∃ vs, p.2.data = .fields vs) : CallR X (.builtin "isinstance") (rIsE X.K D p.1) := by
  intro pins s σ H xs us Q I r h
  obtain ⟨c, cv, b, rfl, hcv, e, q⟩ := h
  cases r with
  | cons r1 r =>
    cases r with
    | cons r2 r =>
      cases r
      obtain rfl := hcv _ r2
      cases r1
      obtain ⟨hget, _⟩ := I.pin p (List.mem_append_left _ hp)
      obtain ⟨vs, hv⟩ := hf
      obtain ⟨pa, oc, od, dt, sl⟩ := p
      obtain ⟨z1, z2⟩ := hz
      dsimp only at z1 z2 hv hget
      subst z1 z2 hv
      refine PySem.W.kia_one (PySem.W.handS_kitx_exc C.hg C.hk C.hs C.hd C.ha C.hn C.ht C.hm) I.kIn ⟨hget, rfl, rfl, trivial⟩ e (fun z => nomatch z) fun tk => ?_
      exact ⟨.bl b, H, I.kept (t' := tk) fun _ _ z => z, rfl, q⟩
end
/-- a value that stands for itself -/
def oV (v : V) : Ob := ⟨fun _ _ _ x => x = v, fun _ _ h => h⟩
section
variable {K : PySem.W.Frag} {B : Hp} {env : Env} {t : TA} {a D : Addr} {c : V}
theorem ev_cst : Ev K B (tC c) env (.lo (oV c)) := fun F H σ R Q q => q c F H (Gr.refl R.kn) rfl
theorem ev_isE {cv : Value} {b : Bool} (h : EvA K B t env [.lo (oV (.ref a)), .lo (oV c)]) (k : ClsV c cv) (e : PySem.W.kitOne K (.ref D) cv = some b) : Ev K B (tCB (rIsE K D a) t) env (.im (.bl b)) :=
  ev_cb h fun B F H vs kn ⟨H0, hv⟩ Q q => by
    cases hv with
    | cons h1 hv =>
      cases hv with
      | cons h2 hv =>
        cases hv
        obtain rfl := h1
        obtain rfl := h2
        exact ⟨_, cv, b, rfl, fun u r => k.eq r, e, q _ F H (Gr.refl kn) (.bl b)⟩
/-- [..].index(True) -/
theorem ev_idxB {te : TE} {bs : List Bool} {j : Nat} (h : Ev K B te env (.ob (.lst (bs.map .bl)))) (hy : EvA K B t env [.im (.bl true)]) (hj : bs[j]? = some true) (hl : ∀ m, m < j → bs[m]? = some false) : Ev K B (tBM K "list" (rIndex K) te t) env (.im (.int (j : Nat))) := fun F H σ R Q q =>
  h F H σ R _ fun v F1 H1 g1 r => by
    obtain ⟨l, xs, rfl, ex, r⟩ := r
    obtain rfl := r.bls
    refine ⟨.inl ⟨rfl, _, .inl (.inl ex)⟩, hy F1 H1 σ (R.step g1) _ fun us F2 H2 g2 ru => ?_⟩
    cases ru with
    | cons r1 ru =>
      cases ru
      obtain rfl := Rp.inv_bl r1
      refine ⟨l, _, .bl true, j, .bl true, rfl, rfl, .inl (.inl (g2.hh _ _ nt_lst ex)), rfl, ?_, by rw [List.getElem?_map, hj] <;> rfl, rfl, fun m z hm hz => ?_, q _ F2 H2 (g1.trans g2) (.int _)⟩
      · rw [List.all_map]
        exact List.all_eq_true.mpr fun _ _ => rfl
      · rw [List.getElem?_map, hl m hm] at hz
        cases hz
        rfl
end
/-! ### the word for what was raised -/
/-- the classes, by their names: what is known of them -/
structure Words (K : PySem.W.Frag) (mg : Str → Option Value) (cs : List (Str × Addr)) : Prop where
  gl : ∀ p ∈ cs, mg p.1 = some (.ref p.2)
  exc : ∀ p ∈ cs, ExcC K p.2
  kit : ∀ p ∈ cs, ∀ q ∈ cs, PySem.W.kitOne K (.ref p.2) (.ref q.2) = some (decide (p.1 = q.1))
  ve : ∀ p ∈ cs, PySem.W.kitOne K (.ref p.2) (.type "ValueError") = some true
/-- ('refused', its name) -/
def wordD (x : Str) : D := .tup [.str "refused", .str x]
/-- what is promised of p: it is handled -/
abbrev WSp := Addr × Obj → Hp → VK → Prop
structure FnW (P : Program) (w : World) (K : PySem.W.Frag) (mg : Str → Option Value) (base : Heap) (k : Nat) (f : Addr) (fd : FuncData) (x : Str) (sp : WSp) : Prop where
  run : ∀ (A : Around) (outer : List PySem.Env) (s : Shared) (H : Hp) (args : Args) (Q : VK) (E : XK) (p : Addr × Obj), L2H.RoomH k A → L2H.Hot1 A p → L2H.PinOk outer H s p → Env0 P w K mg base A outer s H → BindsTo s fd args [(x, .ref p.1)] → sp p H Q →
    codeAny (model P w) A (.call (.ref f) args) (CR (L2N.CX P w) outer P w H s Q E) s
section
variable {P : Program} {w : World} {K : PySem.W.Frag} {mg : Str → Option Value} {base : Heap} {k : Nat} {f : Addr} {name qual x : Str} {params : Arguments} {body : List Stmt} {scope : Scope} {dV kV doc pm cdv ct oc : Value} {an od : Option Addr} {osl : Array (Option Value)} {N : List Str} {sp : WSp}
theorem fnw_of (lk : K.lookup f = some ⟨oc, od, .func (PySem.W.fnOf name qual params body scope dV kV doc pm an cdv ct), osl⟩) (hcd : PySem.W.codeIn K cdv qual = true) (S : FnScope N [x] scope)
    (hbody : ∀ (A : Around) (outer : List PySem.Env) (s : Shared) (H : Hp) (Q : VK) (E : XK) (p : Addr × Obj), L2H.Hot1 A p → L2H.RoomH k (A.deeper (envOfC qual scope s.heap.objs.size f cdv)) → sp p H Q →
      ∃ t, PSs (L2H.cxH (L2N.CX P w) P w K mg base N qual scope f cdv A outer s H E p) body t ∧ t { nx := fun _ H' => Q .non H', rt := Q } (L2.start N [.ref p.1]) H) :
    FnW P w K mg base (k + 1) f (PySem.W.fnOf name qual params body scope dV kV doc pm an cdv ct) x sp := by
  refine ⟨fun A outer s H args Q E p hr hot hpin e0 hb hsp => ?_⟩
  have still : ∀ b o, base.get? b = some o → s.heap.get? b = some o := fun b o e => (e0.bs b o e).1
  have here : K.In s.heap := e0.mod.kin.keeps still
  have kinds : ∀ y ∈ [x].zip [Value.ref p.1], scope.names.lookup y.1 = some .local ∨ (scope.names.lookup y.1 = some .cell ∧ ((cellsFrom (s.heap.objs.size + 1) scope.names []).lookup y.1).isSome = true) := fun y hy => by
    obtain rfl : y = (x, Value.ref p.1) := by simpa using hy
    exact (S.par x (by simp)).imp id fun q => ⟨q, PySem.W.cellsFrom_some _ _ _ (.inl q)⟩
  refine codeAny_call_function hr.depth (here _ _ lk) rfl S.co S.gen rfl (PySem.W.codeRec_of here hcd) (hb _ _ _ _ ?_)
  refine wpAny_newFunctionEnv_cells (binds := [x].zip [Value.ref p.1]) S.kind kinds fun env he s1 new => ?_
  subst he
  refine ⟨(e0.mod.nolimit.keeps still).keeps new.toInCall.keep, codeAny_func ?_⟩
  obtain ⟨t, ht, hq⟩ := hbody A outer s H Q E p hot (hr.deeper _) hsp
  have J := L2H.inv_startH (CX := L2N.CX P w) (E := E) (vs := [.ref p.1]) (us := [.ref p.1]) S hpin e0 rfl (.cons rfl .nil) new
  refine wpAny_mono (ht.run [] s1 _ H _ J hq) (fun fl s' z => ?_) fun e s' z => z
  cases fl with
  | ret u => obtain ⟨v, σ', H', J', rv, q⟩ := z; exact ⟨v, H', J'.os, J'.bare, J'.base, J'.hok, rv, q⟩
  | next => obtain ⟨σ', H', J', q⟩ := z; exact ⟨.non, H', J'.os, J'.bare, J'.base, J'.hok, rfl, q⟩
  | brk => obtain ⟨_, _, _, q⟩ := z; exact q.elim
  | cont => obtain ⟨_, _, _, q⟩ := z; exact q.elim
end
section
variable {X : Cx} {k : Nat} {f : Addr} {fd : FuncData} {x y : Str} {sp : WSp} {p : Addr × Obj} {i : Nat} {q r pos : Pos}
/-- f(n), n what is handled, in its suite -/
theorem pe_callW (F : FnW X.prog X.w X.K X.mg X.base k f fd x sp) (hr : L2H.RoomH k X.A) (hot : L2H.Hot1 X.A p) (hp : p ∈ X.pn) (hg : Gl X y) (hm : X.mg y = some (.ref f)) (hk : PySem.W.keepIn X.K (.ref f) = true) (hb : Binds X.K fd [x] [])
    (hE : ∀ s H e s' pins σ, Inv X pins σ H s → L2N.CX X.prog X.w X.stack H s E0 e s' → X.xe e s') {n : Str} (hn : PE X (.Name n r) (tVar i)) (hdb : (y == ("__debug__" : Str)) = false := by decide)
    (he : starEach [.Name n r] X.env = (false, eval (.Name n r) X.env) :: starEach [] X.env := by rfl) (hpl : (backTo pos (starEach [] X.env)).any (·.1) = false := by rfl) :
    PE X (.Call (.Name y q) [.Name n r] [] pos) (fun σ H Q => σ[i]? = some (some (.ref p.1)) ∧ sp p H Q) := by
  refine ⟨fun pins s σ H Q I h => ?_⟩
  obtain ⟨hs, h⟩ := h
  refine wpAny_Call_Name_kw (ld_glob I hg hm ?_ hdb)
  have ha : PA X [.Name n r] (tCons (tVar i) tNil) := pa_cons hn pa_nil he
  refine PySem.W.callWith_K (h₀ := X.base) I.ok.mod.kin hk (thn (ha.run pos pins s σ H (fun vs H1 => vs = [V.ref p.1] ∧ H1 = H) I ⟨.ref p.1, hs, rfl, rfl⟩) fun us s1 z => ?_) he hpl
  obtain ⟨vs, H1, I1, rv, ev, eH⟩ := z
  subst ev
  rw [eH] at I1
  obtain rfl := Vals.ref1 rv
  refine ⟨I1.kIn, ?_⟩
  have P1 := I1.pin p (List.mem_append_left _ hp)
  have pin : L2H.PinOk X.stack H s1 p := ⟨P1.1, P1.2.1, fun z => (List.mem_cons.mp (I1.stkSub p.1 z)).elim P1.2.2.1 P1.2.2.2.1, P1.2.2.2.2⟩
  have b := hb s1 [.ref p.1] I1.kIn rfl
  refine wpAny_call (codeAny_mono (F.run X.A X.stack s1 H ⟨[.ref p.1], []⟩ Q E0 p hr hot pin I1.env0 b h) fun o s' z => ?_)
  cases o with
  | error e => exact hE _ _ _ _ _ _ I1 z
  | ok fl =>
    cases fl with
    | ret u => exact I1.after z
    | next => exact z.elim
    | brk => exact z.elim
    | cont => exact z.elim
end
end NM
/-! told(lambda: body): the lambda's exceptions keep that their context is None. -/
namespace NM
open PySem PySem.Spec PyProof.Rows L2
variable [Tbs]
open LamX
/-- the lambda's own context, its exceptions with their context -/
def lamN (X : Cx) (A : Around) (outer : List PySem.Env) (s : Shared) (H : Hp) (E : XK) (scope : Scope) (f c' : Addr) : Cx :=
  (lamCx X A outer s H E scope f c').wish fun e s' => wpAny (model X.prog X.w) (A.deeper (lamEnv X scope s.heap.objs.size f c')) (leaving (lamEnv X scope s.heap.objs.size f c') e) (fun _ s'' => L2N.CX X.prog X.w outer H s E e s'') (fun e' s'' => L2N.CX X.prog X.w outer H s E e' s'') s'
section
variable {X : Cx} {pins : List (Addr × Obj)} {σ : L2.St} {H : Hp} {s : Shared}
/-- a(), where told stands: its context Z was entered at s -/
theorem pe_deed {Ng : List Str} {qg : Str} {sg : Scope} {g f c' : Addr} {cdg pm ctv : Value} {params : Arguments} {body : Expr} {scope : Scope} {k : Nat} {a : Str} {pn : List (Addr × Obj)} {xe : Value → Shared → Prop} {W : WX} {E : XK} {tb : TE} {p1 p2 : Pos}
    (I : Inv X pins σ H s) (L : LamS X.env.scope scope) (hf : s.heap.get? f = some (PySem.W.kla_obj "<lambda>" (X.env.qual ++ "<lambda>") params body scope (cloFrom X.env.cells scope.names []) pm c' ctv)) (hfn : H f = none) (hfr : f ∉ frs X.stack)
    (hbind : bindArgs (PySem.W.kla_fn "<lambda>" (X.env.qual ++ "<lambda>") params body scope (cloFrom X.env.cells scope.names []) pm (.ref c') ctv) ⟨[], []⟩ = pure [])
    (tk : L2N.Takes ((cxOf (L2N.CX X.prog X.w) X.prog X.w X.K X.mg X.base Ng qg sg g cdg X.A X.stack s H E0).tr pn xe) W) (hr : Room (k + 1) (X.A.deeper (envOfC qg sg s.heap.objs.size g cdg)))
    (hbody : ∀ (A : Around) (outer : List PySem.Env) (s : Shared) (H : Hp), Room k (A.deeper (lamEnv X scope s.heap.objs.size f c')) → PE (lamN X A outer s H E scope f c') body tb)
    (hN : Ng[0]? = some a) (hv : Vis sg a) (hd : (a == ("__debug__" : Str)) = false := by decide) (hcd : (a == ("__classdict__" : Str)) = false := by decide) :
    PE ((cxOf (L2N.CX X.prog X.w) X.prog X.w X.K X.mg X.base Ng qg sg g cdg X.A X.stack s H E0).tr pn xe) (.Call (.Name a p1) [] [] p2)
      (fun σZ HZ Q => (∀ cls d H', E cls d H' → W cls d σZ H') ∧ σZ[0]? = some (some (.ref f)) ∧ HZ c' = some (CodeO c' (X.env.qual ++ "<lambda>")) ∧ tb σ HZ Q) := by
  refine ⟨fun pinsZ sZ σZ HZ Q IZ h => ?_⟩
  obtain ⟨hW, hs, hc, ht⟩ := h
  have hvar := (pe_var (pos := p1) (i := 0) hN hv hd hcd).run pinsZ sZ σZ HZ (fun v H1 => v = .ref f ∧ H1 = HZ) IZ ⟨.ref f, hs, rfl, rfl⟩
  refine wpAny_Call_Name_kw (thn hvar fun u s1 z => ?_)
  obtain ⟨v, H1, I1, r1, rfl, rfl⟩ := z
  obtain rfl : u = Value.ref f := r1
  have here : s1.heap.get? f = some (PySem.W.kla_obj "<lambda>" (X.env.qual ++ "<lambda>") params body scope (cloFrom X.env.cells scope.names []) pm c' ctv) := I1.base.keep f _ hf hfn hfr fun z => nomatch (show f ∈ ([] : List Addr) from z)
  refine PySem.W.callWith_F0 ⟨_, _, _, _, here⟩ ?_
  have un : Un (frs X.stack) [] H H1 s.heap s1.heap := I1.base
  have code := (I1.hok c' _ hc).1
  obtain ⟨oc, vs, t, hoc, hdc, hvc⟩ := code
  have run : codeAny (model X.prog X.w) (X.A.deeper (envOfC qg sg s.heap.objs.size g cdg)) (.call (.ref f) ⟨[], []⟩) (CR (L2N.CX X.prog X.w) (envOfC qg sg s.heap.objs.size g cdg :: X.stack) X.prog X.w H1 s1 Q E) s1 := by
    refine PySem.W.kla_callFunE hr.depth here rfl L.co L.gen rfl ⟨c', oc, vs, t, rfl, hoc, hdc, hvc⟩ ?_
    rw [hbind]
    refine wpAny_pure (wpAny_newFunctionEnv (fun y hy => (L.own y hy).2) (fun y hy => absurd hy (by simp)) (fun h₁ hns sb => ⟨I1.nolimit.fresh _ sb, ?_⟩) L.kind)
    show codeAny _ _ (.expr body (lamEnv X scope s1.heap.objs.size f c')) _ _
    have J := lam_start2 (A := X.A.deeper (envOfC qg sg s.heap.objs.size g cdg)) (outer := envOfC qg sg s.heap.objs.size g cdg :: X.stack) (E := E) (f := f) (c' := c') (tk := s1.toks + ([] : List (Str × Value)).length) I L I1.env0 hr.hd un hns
      fun b o e => sb.extBut b o (Nat.ne_of_lt (Heap.lt_size e)) (Heap.get?_push_of_some _ e)
    have J' : Inv (lamN X (X.A.deeper (envOfC qg sg s.heap.objs.size g cdg)) (envOfC qg sg s.heap.objs.size g cdg :: X.stack) s1 H1 E scope f c') [] σ H1 _ := J.wish _
    refine PySem.W.kla_codeExpr (wpAny_mono ((hbody _ _ s1 H1 (hr.deeper _)).run [] _ _ H1 Q J' ht) (fun v s' z => ?_) fun e s' z => z)
    obtain ⟨w', H', J2, rv, q⟩ := z
    exact ⟨w', H', J2.os, J2.bare, J2.base, J2.hok, rv, q⟩
  refine wpAny_call (codeAny_mono run fun o s' z => ?_)
  cases o with
  | error e => exact tk _ _ (L2N.XE.of_call I1 (fun cls d H' q => hW cls d H' q) z)
  | ok fl =>
    cases fl with
    | ret u => exact I1.after z
    | next => exact z.elim
    | brk => exact z.elim
    | cont => exact z.elim
/-- what told makes of an exception: the word's promise, with its class -/
abbrev TSp := Value → Option Addr → Hp → VK → Prop
def tTold (T : List (Addr × Str)) (ws : TSp) (t : XK → TE) : TE := fun σ H Q => Tabs T H ∧ ∀ H1, ExtN H H1 → Tabs T H1 → t (fun cls d H' => ws cls d H' Q) σ H1 Q
/-- told(lambda: body); told is: try: return a() / except x as n: return w(n) -/
theorem pe_told {T : List (Addr × Str)} {ws : TSp} {tell a x n wd : Str} {g c P CS fw : Addr} {fdw : FuncData} {wx : Str} {wsp : WSp} {k j : Nat} {pg : Arguments} {sg : Scope} {dV kV doc pm cdv ct oc : Value} {an od : Option Addr} {osl : Array (Option Value)} {Ng : List Str}
    {params : Arguments} {body : Expr} {scope : Scope} {t : XK → TE} {p lpos pos p1 p2 p3 p4 p5 p6 p7 p8 p9 p10 : Pos} (hg : Gl X tell) (hm : X.mg tell = some (.ref g)) (hk : PySem.W.keepIn X.K (.ref g) = true)
    (bg : List Stmt) (ebg : bg = [.Try [.Return (some (.Call (.Name a p1) [] [] p2)) p3] [.ExceptHandler (some (.Name x p4)) (some n) [.Return (some (.Call (.Name wd p5) [.Name n p6] [] p7)) p8] p9] [] [] p10])
    (lk : X.K.lookup g = some ⟨oc, od, .func (PySem.W.fnOf tell tell pg bg sg dV kV doc pm an cdv ct), osl⟩)
    (hcg : PySem.W.codeIn X.K cdv tell = true) (hb : L2.Binds X.K (PySem.W.fnOf tell tell pg bg sg dV kV doc pm an cdv ct) [a] [])
    (Sg : FnScope Ng [a] sg) (hNg : Ng[0]? = some a) (hva : Vis sg a) (hj : Ng[j]? = some n) (hjl : sg.names.lookup n = some .local)
    (hxg : sg.names.lookup x = some .globalImplicit) (hxm : X.mg x = some (.ref CS)) (hxd : (x == ("__debug__" : Str)) = false)
    (hwg : sg.names.lookup wd = some .globalImplicit) (hwm : X.mg wd = some (.ref fw)) (hwk : PySem.W.keepIn X.K (.ref fw) = true) (hwb : L2.Binds X.K fdw [wx] []) (F : FnW X.prog X.w X.K X.mg X.base k fw fdw wx wsp)
    (hws : ∀ cls d H Q, ws cls d H Q → PySem.W.exmOne X.K cls (.ref CS) = some true ∧ ∀ p : Addr × Obj, Zc cls d p.2 → (∃ vs, p.2.data = .fields vs) → wsp p H Q)
    (TB : TabB X.base X.mg c P) (hcode : X.env.code = .ref c) (hmT : (P, X.env.qual ++ "<lambda>") ∈ T) (hu : ∀ p ∈ T, p.1 = P → p.2 = X.env.qual ++ "<lambda>") (hr : Room (k + 2) X.A) (L : LamS X.env.scope scope) (hdef : defaultsOf params X.env = ([], []))
    (hbind : ∀ (q : Str) (cl : List (Str × Addr)) (pm cv ctv : Value), bindArgs (PySem.W.kla_fn "<lambda>" q params body scope cl pm cv ctv) ⟨[], []⟩ = pure [])
    (hbody : ∀ (A : Around) (outer : List PySem.Env) (s : Shared) (H : Hp) (E : XK) (f c' : Addr), Room k (A.deeper (lamEnv X scope s.heap.objs.size f c')) → PE (lamN X A outer s H E scope f c') body (t E))
    (hdb : (tell == ("__debug__" : Str)) = false := by decide) (hd : (a == ("__debug__" : Str)) = false := by decide) (hcd : (a == ("__classdict__" : Str)) = false := by decide) (hnd : (n == ("__debug__" : Str)) = false := by decide) (hnc : (n == ("__classdict__" : Str)) = false := by decide) (hwd : (wd == ("__debug__" : Str)) = false := by decide) :
    PE X (.Call (.Name tell p) [.Lambda params body scope lpos] [] pos) (tTold T ws t) := by
  subst ebg
  refine ⟨fun pins s σ H Q I h => ?_⟩
  obtain ⟨hT, h⟩ := h
  refine wpAny_Call_Name_kw (ld_glob I hg hm ?_ hdb)
  refine PySem.W.callWith_K (h₀ := X.base) I.ok.mod.kin hk ?_ (by rfl) (by rfl)
  show wpAny _ _ (spliced ((false, eval (.Lambda params body scope lpos) X.env) :: backTo pos (starEach [] X.env))) _ _ s
  refine Calls.spliced_cons (lam_make2 I TB hcode hmT hu hT hdef (L.has I.ok) fun f c' pm' ctv H1 s' I1 eN T1 hf hfn hfr hco => ?_)
  refine Calls.spliced_nil ⟨I1.kIn, ?_⟩
  have rc : codeAny (model X.prog X.w) X.A (.call (.ref g) ⟨[.ref f], []⟩) (CR (L2N.CX X.prog X.w) X.stack X.prog X.w H1 s' Q E0) s' := by
    refine run_ofS (N := Ng) (ps := [a]) (us := [.ref f]) (vs := [.ref f]) lk hcg Sg hr I1.env0 (hb s' [.ref f] I1.kIn rfl) (.cons rfl .nil) rfl fun hr' => ?_
    have jl : j < (L2.start Ng [V.ref f]).length := by
      have hlt := (List.getElem?_eq_some_iff.mp hj).1
      unfold L2.start
      rw [List.length_append, List.length_map, List.length_replicate]
      simp only [List.length_cons, List.length_nil]
      omega
    have tk0 : L2N.Takes (cxOf (L2N.CX X.prog X.w) X.prog X.w X.K X.mg X.base Ng tell sg g cdv X.A X.stack s' H1 E0) (fun _ _ _ _ => False) := fun _ _ z => by
      obtain ⟨_, _, _, _, _, _, _, _, _, _, _, _, _, _, _, _, z⟩ := z
      exact z.elim
    refine ⟨_, pss_one (L2N.ps_try_as (c := .ref CS) (i := j) (Wout := fun _ _ _ _ => False)
      (tb := fun W D σZ HZ => ∃ E' : XK, (∀ cls d H', E' cls d H' → W cls d σZ H') ∧ σZ[0]? = some (some (.ref f)) ∧ HZ c' = some (CodeO c' (X.env.qual ++ "<lambda>")) ∧ t E' σ HZ D.rt)
      (ts := fun b cls d D σZ HZ => σZ[j]? = some (some (.ref b)) ∧ ws cls d HZ D.rt)
      rfl rfl Sg.nd hj hjl ⟨hxg, hxd, .inl hxm⟩ tk0 (fun W pn xe tk _ => ?_) (fun b oe cls d pn hz hfs => ?_)), ?_⟩
    · refine ⟨fun pinsZ sZ σZ HZ D IZ z => ?_⟩
      obtain ⟨E', hW, h1, h2, h3⟩ := z
      have hp := pe_deed (p1 := p1) (p2 := p2) (E := E') I1 L hf hfn hfr (hbind _ _ _ _ _) tk hr' (fun A outer s H hr2 => hbody A outer s H E' f c' hr2) hNg hva hd hcd
      exact (pss_one (ps_ret (pos := p3) hp)).run pinsZ sZ σZ HZ D IZ ⟨hW, h1, h2, h3⟩
    · refine ⟨fun pinsZ sZ σZ HZ D IZ z => ?_⟩
      obtain ⟨h1, h2⟩ := z
      obtain ⟨_, h3⟩ := hws _ _ _ _ h2
      have hot : L2H.Hot1 ((cxOf (L2N.CX X.prog X.w) X.prog X.w X.K X.mg X.base Ng tell sg g cdv X.A X.stack s' H1 E0).suite b ((b, oe) :: pn)).A (b, oe) := by
        obtain ⟨vs, e⟩ := hfs
        exact ⟨rfl, vs, e, hz.2.2 vs e⟩
      have hp := pe_callW (X := (cxOf (L2N.CX X.prog X.w) X.prog X.w X.K X.mg X.base Ng tell sg g cdv X.A X.stack s' H1 E0).suite b ((b, oe) :: pn)) (p := (b, oe)) (i := j) (q := p5) (r := p6) (pos := p7) F
        (L2H.RoomH.mono ⟨hr'.dp, hr'.un⟩ (Nat.le_succ k)) hot List.mem_cons_self hwg hwm hwk hwb (fun _ _ _ _ _ _ _ z => by obtain ⟨_, _, _, _, _, _, _, _, _, _, _, _, z⟩ := z; exact z.elim)
        (pe_var (i := j) hj (.inl hjl) hnd hnc) hwd
      exact (pss_one (ps_ret (pos := p8) hp)).run pinsZ sZ σZ HZ D IZ ⟨h1, h3 (b, oe) hz.zc hfs⟩
    · refine ⟨fun cls d H' => ws cls d H' Q, fun cls d H' q => ⟨true, (hws _ _ _ _ q).1, fun _ b _ => ⟨List.getElem?_set_self jl, q⟩, fun z => nomatch z⟩, ?_, hco, h H1 eN T1⟩
      rfl
  refine wpAny_call (codeAny_mono rc fun r s2 z => ?_)
  cases r with
  | error e =>
    obtain ⟨_, _, _, _, _, _, _, _, _, _, _, _, z⟩ := z
    exact z.elim
  | ok fl =>
    cases fl with
    | ret u => exact I1.after z
    | next => exact z.elim
    | brk => exact z.elim
    | cont => exact z.elim
end
/-! ### upon data -/
/-- the word's promise -/
def wsOf (K : PySem.W.Frag) (cs : List (Str × Addr)) : TSp := fun cls d H Q => ∃ (nm : Str) (C : Addr) (F : Hp), (nm, C) ∈ cs ∧ cls = .ref C ∧ d = none ∧ Kn F H ∧ LamX.Tabs Tbs.T H ∧ ∀ v F' H', Gr F F' H H' → Rp K F' v (wordD nm) → Q v H'
/-- a lambda's body -/
def EvL (K : PySem.W.Frag) (B : Hp) (t : XK → TE) (env : Env) (res : Res) : Prop :=
  ∀ F H σ, RelE K B F H σ env → ∀ (Q : VK) (E : XK), (match res with
    | .ok r => ∀ v F' H', Gr F F' H H' → VlOk K B H F' H' v r → Q v H'
    | .ex C => ∀ F' H', Gr F F' H H' → E (.ref C) none H') → t E σ H Q
/-- what is told of it -/
inductive ToldIs (cs : List (Str × Addr)) : Res → D → Prop
  | ok (d : D) : ToldIs cs (.ok (.im d)) d
  | ex (nm : Str) (C : Addr) (h : (nm, C) ∈ cs) : ToldIs cs (.ex C) (wordD nm)
section
variable {K : PySem.W.Frag} {B : Hp} {env : Env} {t : XK → TE} {cs : List (Str × Addr)} {res : Res} {d : D} {ta : TA} {S : List Vl → Res → Prop} {n : Nat} {rs : List Vl}
theorem Gr.tables {F H H1 : Hp} (k : Kn F H) (e : ExtN H H1) (T1 : LamX.Tabs Tbs.T H1) : Gr F F H H1 := by
  have hh : ∀ a u, NT u → H a = some u → H1 a = some u := fun a u n h => e a u h n
  exact ⟨fun _ _ _ e => e, fun _ _ _ _ e => e, hh, fun _ => T1, k.trans (.of hh)⟩
theorem ev_told (h : EvL K B t env res) (w : ToldIs cs res d) : Ev K B (tTold Tbs.T (wsOf K cs) t) env (.im d) := fun F H σ R Q q => by
  refine ⟨R.bn.tb, fun H1 e T1 => ?_⟩
  have g := Gr.tables R.kn e T1
  refine h F H1 σ (R.step g) _ _ ?_
  cases w with
  | ok d => exact fun v F' H' g' x => q v F' H' (g.trans g') x
  | ex nm C hm => exact fun F' H' g' => ⟨nm, C, F', hm, rfl, rfl, g'.kn, g'.tb (g.tb R.bn.tb), fun v F2 H2 g2 r => q v F2 H2 (g.trans (g'.trans g2)) r⟩
/-- a call within the lambda -/
theorem el_call (h : EvA K B ta env rs) (f : ∀ r ∈ rs, Flat r) (s : S rs res) (b : ∀ r, res = .ok r → Back r) (hn : rs.length = n := by rfl) : EvL K B (fun E => tCall (spX K S n) [] E ta) env res := fun F H σ R Q E q =>
  h F H σ R _ fun vs F' H' g x => by
    show spX K S n (vs ++ []) H' Q E
    rw [List.append_nil]
    refine ⟨F', rs, res, by rw [x.length]; exact hn, g.kn, (R.bn.step g).tb, x.flat f, s, ?_⟩
    cases res with
    | ok r => exact fun v F2 H2 g2 y => q v F2 H2 (g.trans g2) ((y.back' (b r rfl)).back g.mo)
    | ex C => exact fun F2 H2 g2 => q F2 H2 (g.trans g2)
end
end NM
/-! What is known of the module's names; isinstance; names and points. -/
namespace NM
open PySem PySem.Spec PyProof.Rows L2
variable [Tbs]
/-- the built-in names that the module leaves alone -/
structure Free (mg : Str → Option Value) : Prop where
  len : mg "len" = none
  isinstance : mg "isinstance" = none
  all : mg "all" = none
  max : mg "max" = none
  min : mg "min" = none
  abs : mg "abs" = none
  range : mg "range" = none
  sorted : mg "sorted" = none
  sum : mg "sum" = none
  int : mg "int" = none
  bool : mg "bool" = none
  str : mg "str" = none
  list : mg "list" = none
  tuple : mg "tuple" = none
  dict : mg "dict" = none
  ValueError : mg "ValueError" = none
  enumerate : mg "enumerate" = none
  set : mg "set" = none
def frees : List Str := ["len", "isinstance", "all", "max", "min", "abs", "range", "sorted", "sum", "int", "bool", "str", "list", "tuple", "dict", "ValueError", "enumerate", "set"]
theorem Free.of {mg : Str → Option Value} (h : ∀ x ∈ frees, mg x = none) : Free mg := by
  constructor <;> exact h _ (by simp [frees])
/-- a class over ValueError -/
structure Ex (K : PySem.W.Frag) (mg : Str → Option Value) (nm : Str) (C : Addr) : Prop where
  x : PySem.W.excIn K C He.veBase "ValueError.__new__" = true
  g : mg nm = some (.ref C)
  k : PySem.W.keepIn K (.ref C) = true
  b : PySem.W.subIn K (.ref C) (.type "BaseException") = some true
  t : PySem.W.typeIn K (.ref C) = some (.type "type")
/-! ### isinstance -/
def tyOf : D → String
  | .non => "NoneType"
  | .bl _ => "bool"
  | .int _ => "int"
  | .str _ => "str"
  | .tup _ => "tuple"
  | .lst _ => "list"
  | .dct _ => "dict"
theorem ty_x {K : PySem.W.Frag} {F H : Hp} {v : V} {d : D} (k : Kn F H) (h : Rp K F v d) : TyX K H v (.type (tyOf d)) := by
  cases h with
  | non => exact .base .non
  | bl b => exact .base (.bl b)
  | int i => exact .base (.int i)
  | str s => exact .base (.str s)
  | tup q r =>
    rcases k.sqT q with (z | ⟨o, z⟩) | ⟨o, _, _, z, c, _⟩
    · exact .base (.tup z)
    · exact .fTuple z
    · exact .kTuple z c
  | lst q r => exact .base (.lst (k.lst q))
  | dct q r =>
    rcases k.rd q with z | ⟨o, z⟩
    · exact .base (.dK z)
    · exact .fDict z
/-- whether d is of a class -/
def isInt : D → Bool
  | .int _ => true
  | .bl _ => true
  | _ => false
def isBl : D → Bool
  | .bl _ => true
  | _ => false
def isStr : D → Bool
  | .str _ => true
  | _ => false
def isTup : D → Bool
  | .tup _ => true
  | _ => false
def isLst : D → Bool
  | .lst _ => true
  | _ => false
theorem kit_int (d : D) : kitB (tyOf d) "int" = some (isInt d) := by cases d <;> simp only [tyOf, isInt] <;> decide +kernel
theorem kit_bl (d : D) : kitB (tyOf d) "bool" = some (isBl d) := by cases d <;> simp only [tyOf, isBl] <;> decide +kernel
theorem kit_str (d : D) : kitB (tyOf d) "str" = some (isStr d) := by cases d <;> simp only [tyOf, isStr] <;> decide +kernel
theorem kit_tup (d : D) : kitB (tyOf d) "tuple" = some (isTup d) := by cases d <;> simp only [tyOf, isTup] <;> decide +kernel
theorem kit_lst (d : D) : kitB (tyOf d) "list" = some (isLst d) := by cases d <;> simp only [tyOf, isLst] <;> decide +kernel
section
variable {K : PySem.W.Frag} {B : Hp} {env : Env} {t : TA} {d : D} {c : String} {b : Bool} {ta tb : TE}
theorem ev_isi (h : EvA K B t env [.im d, .lo (oV (.ty c))]) (e : kitB (tyOf d) c = some b) : Ev K B (tCB (rIsi K) t) env (.im (.bl b)) :=
  ev_cb h fun B F H vs kn ⟨H0, hv⟩ Q q => by
    cases hv with
    | cons h1 hv =>
      cases hv with
      | cons h2 hv =>
        cases hv
        obtain rfl := h2
        exact ⟨_, _, _, _, b, rfl, .ty c, ty_x kn h1, kit_ty e, q _ F H (Gr.refl kn) (.bl b)⟩
theorem ev_isInt (h : EvA K B t env [.im d, .lo (oV (.ty "int"))]) : Ev K B (tCB (rIsi K) t) env (.im (.bl (isInt d))) := ev_isi h (kit_int d)
theorem ev_isBl (h : EvA K B t env [.im d, .lo (oV (.ty "bool"))]) : Ev K B (tCB (rIsi K) t) env (.im (.bl (isBl d))) := ev_isi h (kit_bl d)
theorem ev_isStr (h : EvA K B t env [.im d, .lo (oV (.ty "str"))]) : Ev K B (tCB (rIsi K) t) env (.im (.bl (isStr d))) := ev_isi h (kit_str d)
theorem ev_isTup (h : EvA K B t env [.im d, .lo (oV (.ty "tuple"))]) : Ev K B (tCB (rIsi K) t) env (.im (.bl (isTup d))) := ev_isi h (kit_tup d)
theorem ev_isLst (h : EvA K B t env [.im d, .lo (oV (.ty "list"))]) : Ev K B (tCB (rIsi K) t) env (.im (.bl (isLst d))) := ev_isi h (kit_lst d)
/-- script == [] -/
theorem ev_eqSc0 {ns : List Int} (ha : Ev K B ta env (.lo (oS ns))) (hb : Ev K B tb env (.ob (.lst []))) : Ev K B (tOp (rEqD K) ta tb) env (.im (.bl (decide (ns = [])))) :=
  ev_op ha hb fun B F H x y k ⟨_, hx⟩ ⟨_, hy⟩ Q q => by
    obtain ⟨p, rfl, ex⟩ := hx
    obtain ⟨p', ys, rfl, ey, r⟩ := hy
    cases r
    have key : ∀ zs : List Int, DpAll K H (zs.map V.int) (zs.map PyData.int) := fun zs => by
      induction zs with
      | nil => exact .nil
      | cons z zs ih => exact .cons (.int z) ih
    have e1 : PyData.eqv (.list (ns.map PyData.int)) (.list []) = decide (ns = []) := by
      cases ns with
      | nil => simp [PyData.eqv, PyData.eqvAll]
      | cons n ns => simp [PyData.eqv, PyData.eqvAll]
    have e2 : SeqAt.shaped (PyData.list (ns.map PyData.int)) = true := by
      have c1 : ∀ zs : List Int, PyData.canLayAll0 (zs.map PyData.int) = true := fun zs => by
        induction zs with
        | nil => rfl
        | cons n zs ih => simpa [PyData.canLayAll0, PyData.canLay0] using ih
      have c2 : ∀ zs : List Int, PyData.depthAll (zs.map PyData.int) ≤ 1 := fun zs => by
        induction zs with
        | nil => exact Nat.zero_le _
        | cons n zs ih =>
          simp only [List.map_cons, PyData.depthAll, PyData.depth]
          omega
      unfold SeqAt.shaped
      have d1 : (PyData.list (ns.map PyData.int)).canLay0 = true := by simpa [PyData.canLay0] using c1 ns
      have d2 : (PyData.list (ns.map PyData.int)).depth ≤ 64 := by
        have := c2 ns
        simp only [PyData.depth]; omega
      rw [d1, decide_eq_true d2]
      all_goals rfl
    refine ⟨_, _, .lst ex (key ns), .lst (.inl (.inl ey)) .nil, e2, by decide, ?_⟩
    rw [e1]
    exact q _ F H (Gr.refl k) (.bl _)
end
/-! ### slices, minus -/
/-- a part of a slice -/
def EvO (K : PySem.W.Frag) (B : Hp) (tl : TO) (env : Env) (o : Option Int) : Prop :=
  ∀ F H σ, RelE K B F H σ env → ∀ Q : Option Int → Hp → Prop, (∀ F' H', Gr F F' H H' → Q o H') → tl σ H Q
/-- the items of ds[lo:hi] -/
def cutD {α : Type} (xs : List α) (lo hi : Option Int) : List α := (xs.drop (HT.sIx xs.length 0 lo)).take (HT.sIx xs.length xs.length hi - HT.sIx xs.length 0 lo)
section
variable {K : PySem.W.Frag} {B : Hp} {env : Env} {te : TE} {tl th : TO} {lo hi : Option Int} {i : Int} {s : Str} {ds : List D}
theorem eo_none : EvO K B tNoPart env none := fun F H σ R Q q => q F H (Gr.refl R.kn)
theorem eo_some (h : Ev K B te env (.im (.int i))) : EvO K B (tPart te) env (some i) := fun F H σ R Q q =>
  h F H σ R _ fun v F' H' g r => ⟨i, Rp.inv_int r, q F' H' g⟩
theorem ev_slS (h : Ev K B te env (.im (.str s))) (hl : EvO K B tl env lo) (hh : EvO K B th env hi) (hz : s.length ≤ sizeLine) : Ev K B (tSl rSlS te tl th) env (.im (.str (cutS s lo hi))) := fun F H σ R Q q =>
  h F H σ R _ fun v F1 H1 g1 r => hl F1 H1 σ (R.step g1) _ fun F2 H2 g2 => hh F2 H2 σ ((R.step g1).step g2) _ fun F3 H3 g3 => ⟨s, Rp.inv_str r, hz, q _ F3 H3 ((g1.trans g2).trans g3) (.str _)⟩
theorem RpL.cut {F : Hp} {xs : List V} (r : RpL K F xs ds) : RpL K F (cutV xs lo hi) (cutD ds lo hi) := by
  unfold cutV cutD
  rw [r.length]
  exact (r.drop _).take _
theorem ev_slL (h : Ev K B te env (.ob (.lst ds))) (hl : EvO K B tl env lo) (hh : EvO K B th env hi) : Ev K B (tSl (rSlL K) te tl th) env (.nw (oM (.lst (cutD ds lo hi)))) := fun F H σ R Q q =>
  h F H σ R _ fun v F1 H1 g1 r => hl F1 H1 σ (R.step g1) _ fun F2 H2 g2 => hh F2 H2 σ ((R.step g1).step g2) _ fun F3 H3 g3 => by
    have g23 := g2.trans g3
    obtain ⟨p, xs, rfl, ex, r⟩ := (oB (.lst ds)).mono g23.fk g23.hk r
    exact ⟨p, xs, rfl, .inl (.inl ex), fun l hn => q _ F3 _ ((g1.trans g23).trans (Gr.new g3.kn hn)) ((nw_new g3.kn hn r.cut).back (g1.trans g23).mo)⟩
theorem ev_slT (h : Ev K B te env (.im (.tup ds))) (hl : EvO K B tl env lo) (hh : EvO K B th env hi) : Ev K B (tSl (rSlA K) te tl th) env (.im (.tup (cutD ds lo hi))) := fun F H σ R Q q =>
  h F H σ R _ fun v F1 H1 g1 r => hl F1 H1 σ (R.step g1) _ fun F2 H2 g2 => hh F2 H2 σ ((R.step g1).step g2) _ fun F3 H3 g3 => by
    have g23 := g2.trans g3
    obtain ⟨p, xs, rfl, ex, r⟩ := Rp.inv_tup (Rp.mono g23.fk r)
    refine ⟨p, xs, rfl, g3.kn.sqT ex, fun hw => ?_, fun _ l hn => ?_⟩
    · refine q _ F3 H3 (g1.trans g23) ?_
      have e : cutD ds lo hi = ds := by
        unfold cutD
        rw [← r.length, hw.1, hw.2, List.drop_zero, Nat.sub_zero, r.length, List.take_length]
      rw [e]
      exact .tup ex r
    · exact q _ _ _ ((g1.trans g23).trans (Gr.newF g3.kn hn)) (.tup (.inl (.inl upd_same)) (r.cut.mono (Gr.newF (o := .tup (cutV xs lo hi)) g3.kn hn).fk))
theorem ev_neg (h : Ev K B te env (.im (.int i))) : Ev K B (tUn (rU fun i => .int (-i)) te) env (.im (.int (-i))) :=
  ev_un h fun B F H x k ⟨_, hx⟩ Q q => ⟨i, Rp.inv_int hx, q _ F H (Gr.refl k) (.int _)⟩
end
theorem FnW.mono {P : Program} {w : World} {K : PySem.W.Frag} {mg : Str → Option Value} {base : Heap} {j k : Nat} {f : Addr} {fd : FuncData} {x : Str} {sp : WSp} (F : FnW P w K mg base j f fd x sp) (h : j ≤ k) : FnW P w K mg base k f fd x sp :=
  ⟨fun A outer s H args Q E p hr => F.run A outer s H args Q E p (hr.mono h)⟩
/-- a call within a lambda's body -/
theorem pe_fnL {X : Cx} {A : Around} {outer : List PySem.Env} {s : Shared} {H : Hp} {E : XK} {scope : Scope} {f c' : Addr} {k j : Nat} {x : Str} {ps : List Str} {sp : Sp} {e : Expr} {es : List Expr} {t : TA} {p pos : Pos} (F : FnAt X.prog X.w X.K X.mg X.base k x ps sp)
    (hr : Room j (A.deeper (LamX.lamEnv X scope s.heap.objs.size f c'))) (hk : k ≤ j) (hg : Gl (lamN X A outer s H E scope f c') x) (ha : PA (lamN X A outer s H E scope f c') (e :: es) t)
    (hdb : (x == ("__debug__" : Str)) = false := by decide) (he : starEach (e :: es) (lamN X A outer s H E scope f c').env = (false, eval e (lamN X A outer s H E scope f c').env) :: starEach es (lamN X A outer s H E scope f c').env := by rfl) (hpl : (backTo pos (starEach es (lamN X A outer s H E scope f c').env)).any (·.1) = false := by rfl) :
    PE (lamN X A outer s H E scope f c') (.Call (.Name x p) (e :: es) [] pos) (tCall sp [] E t) := by
  obtain ⟨a, fd, h1, h2, h3, h4⟩ := F.ex
  have tk := L2N.takes_of (X := lamN X A outer s H E scope f c') (E := E) rfl rfl rfl rfl
  exact pe_call h4 (hr.mono hk) hg h1 h2 h3 .nil (L2N.passes_call tk fun _ _ _ _ h => h) ha hdb he hpl
end NM
/-! Dicts that are walked: locked meanwhile, if they aren't yet. -/
namespace NM
open PySem PySem.Spec PyProof.Rows L2
variable [Tbs]
/-! ### the rules -/
/-- the statement runs while the dict at d is locked, or d is locked already -/
def tLkX (W : WX) (t : WX → TS) : TS := fun D σ H =>
  (∃ (d : Addr) (u : HO), H d = some u ∧ Mut (some u) ∧ ∀ od, t (fun cls dd σ' H' => H' d = some (.frz od u) ∧ W cls dd σ' (upd H' d u))
    { nx := fun σ' H' => H' d = some (.frz od u) ∧ D.nx σ' (upd H' d u), rt := fun v H' => H' d = some (.frz od u) ∧ D.rt v (upd H' d u), bk := fun σ' H' => H' d = some (.frz od u) ∧ D.bk σ' (upd H' d u), ct := fun σ' H' => H' d = some (.frz od u) ∧ D.ct σ' (upd H' d u) } σ (upd H d (.frz od u))) ∨ t W D σ H
def tLkE (t : TE) : TE := fun σ H Q => tLockE t σ H Q ∨ t σ H Q
section
variable {X : Cx} {W : WX}
theorem takes_unlock {d : Addr} {od : Obj} {u : HO} (tk : L2N.Takes X W) (hn : ∀ o' u', X.H_0 d ≠ some (.frz o' u')) : L2N.Takes X (fun cls dd σ H => H d = some (.frz od u) ∧ W cls dd σ (upd H d u)) := fun v s' x => by
  obtain ⟨a, B, sI, pins, σ, H, cls, dd, e, I, nb, up, sky, na, os, ag, e2, w⟩ := x
  have ne : a ≠ d := fun z => by
    rw [z, e2] at na
    cases na
  exact tk v s' ⟨a, B, sI, pins, σ, upd H d u, cls, dd, e, I.unlock e2 hn, nb, up, sky, by rw [upd_ne ne]; exact na, os, ag, w⟩
theorem ps_lkX {st : Stmt} {t : WX → TS} (h : ∀ W, L2N.Takes X W → PS X st (t W)) (tk : L2N.Takes X W) : PS X st (tLkX W t) := by
  refine ⟨fun pins s σ H D I hw => ?_⟩
  rcases hw with ⟨d, u, hd, mu, hw⟩ | hw
  · obtain ⟨od, I1⟩ := I.lock hd mu
    have hn := I.nofrz hd mu
    refine thn ((h _ (takes_unlock (od := od) (u := u) tk hn)).run pins s σ _ _ I1 (hw od)) fun f s1 q => ?_
    cases f with
    | next => obtain ⟨σ', H', I2, e, q⟩ := q; exact ⟨σ', _, I2.unlock e hn, q⟩
    | brk => obtain ⟨σ', H', I2, e, q⟩ := q; exact ⟨σ', _, I2.unlock e hn, q⟩
    | cont => obtain ⟨σ', H', I2, e, q⟩ := q; exact ⟨σ', _, I2.unlock e hn, q⟩
    | ret v => obtain ⟨x, σ', H', I2, r, e, q⟩ := q; exact ⟨x, σ', _, I2.unlock e hn, r, q⟩
  · exact (h W tk).run pins s σ H D I hw
theorem pe_lk {e : Expr} {t : TE} (h : PE X e t) : PE X e (tLkE t) := ⟨fun pins s σ H Q I hw => hw.elim (fun q => (pe_lock h).run pins s σ H Q I q) fun q => h.run pins s σ H Q I q⟩
end
/-! ### locking, upon data -/
theorem Kn.lock {F H : Hp} {d : Addr} {u w : HO} (k : Kn F H) (h : H d = some u) (e : lk w = lk u) : Kn F (upd H d w) := fun a x n q => by
  obtain ⟨x', e1, e2⟩ := k a x n q
  by_cases z : a = d
  · rw [z, h] at e1
    cases e1
    exact ⟨w, by rw [z, upd_same], e.trans e2⟩
  · exact ⟨x', by rw [upd_ne z]; exact e1, e2⟩
theorem tabs_upd {T : List (Addr × Str)} {H : Hp} {d : Addr} {u w : HO} (h : H d = some u) (n : NX u) (t : LamX.Tabs T H) : LamX.Tabs T (upd H d w) := tabs_of (fun a x nx e => by
  rw [upd_ne fun z => ?_]
  · exact e
  · rw [z, h] at e
    cases e
    exact nx n) t
/-- a frozen thing is no object of one's own -/
theorem nx_frz {o : Obj} {u : HO} : NX (.frz o u) := ⟨fun _ z => (by cases z), fun _ z => (by cases z)⟩
/-- growth from the locked heap, unlocked again -/
theorem Gr.unlock {F F' H H' : Hp} {d : Addr} {u : HO} {od : Obj} {ks : List (Key × V)} (hu : u = .dK ks) (h : H d = some u) (g : Gr F F' (upd H d (.frz od u)) H') : H' d = some (.frz od u) ∧ Gr F F' H (upd H' d u) := by
  subst hu
  have e : H' d = some (.frz od (.dK ks)) := g.hh d _ nt_frz upd_same
  refine ⟨e, g.ff, fun a x n q f => ?_, fun a x n q => ?_, fun t => ?_, g.kn.lock e rfl⟩
  · by_cases z : a = d
    · exact g.fr a _ nt_frz (by rw [z]; exact upd_same) f
    · exact g.fr a x n (by rw [upd_ne z]; exact q) f
  · by_cases z : a = d
    · rw [z, h] at q
      cases q
      rw [z, upd_same]
    · rw [upd_ne z]
      exact g.hh a x n (by rw [upd_ne z]; exact q)
  · exact tabs_upd e nx_frz (g.tb (tabs_upd h nx_dK t))
section
variable {K : PySem.W.Frag} {B H0 F0 F H : Hp} {σ : L2.St} {env : Env}
theorem RelE.lock {d : Addr} {u w : HO} (R : RelE K B F H σ env) (h : H d = some u) (n : NX u) (e : lk w = lk u) : RelE K B F (upd H d w) σ env :=
  ⟨R.kn.lock h e, ⟨R.bn.kn.lock h e, tabs_upd h n R.bn.tb⟩, R.len, fun i s q => by
    have x := R.sl i s q
    cases s with
    | un => trivial
    | im d => exact x
    | ow o => obtain ⟨v, O, a, b, c⟩ := x; exact ⟨v, O, a, b.lock h e, c⟩
    | br o => exact x⟩
/-- an operand that gives the dict of kvs, in any heap alike, and changes nothing -/
def EvD (K : PySem.W.Frag) (B : Hp) (td : TE) (env : Env) (kvs : List (Str × D)) : Prop :=
  ∀ F H σ, RelE K B F H σ env → ∃ d ks, RpK K F ks kvs ∧ Rd H d (.dK ks) ∧ ((∃ u, NT u ∧ F d = some u) ∨ ∃ u, NT u ∧ B d = some u) ∧ ∀ H', RelE K B F H' σ env → ∀ Q : VK, Q (.ref d) H' → td σ H' Q
/-- .. for a comprehension: it may be a thing of one's own -/
def EvD0 (K : PySem.W.Frag) (B : Hp) (td : TE) (env : Env) (kvs : List (Str × D)) : Prop :=
  ∀ F H σ, RelE K B F H σ env → ∃ d ks, RpK K F ks kvs ∧ Rd H d (.dK ks) ∧ ∀ H', RelE K B F H' σ env → ∀ Q : VK, Q (.ref d) H' → td σ H' Q
theorem EvD.z {td : TE} {kvs : List (Str × D)} (h : EvD K B td env kvs) : EvD0 K B td env kvs := fun F H σ R => by
  obtain ⟨d, ks, a, b, _, c⟩ := h F H σ R
  exact ⟨d, ks, a, b, c⟩
theorem ed_var {i : Nat} {kvs : List (Str × D)} (h : env[i]? = some (.im (.dct kvs))) : EvD K B (tVar i) env kvs := fun F H σ R => by
  obtain ⟨v, e, r⟩ := R.sl i _ h
  obtain ⟨a, ks, rfl, rd, rk⟩ := Rp.inv_dct r
  refine ⟨a, ks, rk, R.kn.rd rd, .inl ?_, fun H' R' Q q => ⟨_, e, q⟩⟩
  rcases rd with z | ⟨o, z⟩
  · exact ⟨_, nt_dK, z⟩
  · exact ⟨_, nt_frz, z⟩
theorem ed_varB {i : Nat} {kvs : List (Str × D)} (h : env[i]? = some (.br (oB (.dct kvs)))) : EvD K B (tVar i) env kvs := fun F H σ R => by
  obtain ⟨v, e, a, ks, rfl, rd, rk⟩ := R.sl i _ h
  refine ⟨a, ks, rk, R.bn.kn.rd rd, .inr ?_, fun H' R' Q q => ⟨_, e, q⟩⟩
  rcases rd with z | ⟨o, z⟩
  · exact ⟨_, nt_dK, z⟩
  · exact ⟨_, nt_frz, z⟩
end
/-! ### walking the keys -/
section
variable {K : PySem.W.Frag} {B H0 F0 F H : Hp} {σ : L2.St} {env : Env}
/-- the keys of a locked dict -/
theorem iter_keysL {td : TE} {kvs : List (Str × D)} {d : Addr} {od : Obj} {ks : List (Key × V)} (rk : RpK K F ks kvs) (e : H d = some (.frz od (.dK ks))) (k0 : Kn F H) (hpos : ∀ Q : VK, Q (.ref d) H → td σ H Q) : IterF K (iKeys td) σ F H ((kvs.map (·.1)).map .str) → True := fun _ => trivial
theorem iter_keysI {td : TE} {kvs : List (Str × D)} {d : Addr} {od : Obj} {ks : List (Key × V)} (rk : RpK K F ks kvs) (e : H d = some (.frz od (.dK ks))) (k0 : Kn F H) (hpos : ∀ Q : VK, Q (.ref d) H → td σ H Q) : IterI K (iKeys td) σ F H ((kvs.map (·.1)).map .str) := fun R q => by
  refine hpos _ ⟨d, od, rfl, .inl ⟨ks, e, ?_⟩⟩
  have w : Walk (Itk d od ks) ((kvs.map (·.1)).map D.str).length (fun H => H d = some (.frz od (.dK ks))) (fun i H x H' => H' = H ∧ ∃ k v, ks[i]? = some (k, v) ∧ x = kV k) := by
    rw [List.length_map, List.length_map, ← rk.length]
    exact walk_keys
  refine q _ F H _ _ (Gr.refl k0) w (fun H2 _ k => k _ _ nt_frz e) fun i H1 x H2 hi y F1 k ff => ?_
  obtain ⟨rfl, ky, v, hk, rfl⟩ := y
  obtain ⟨s, dd, h1, rfl, h3⟩ := rk.getI hk
  exact ⟨F1, .str s, Gr.refl k, by rw [List.getElem?_map, List.getElem?_map, h1] <;> rfl, .str s⟩
theorem ev_lcK {td : TE} {g : TG} {tt : TT} {te : TE} {vs js : List Nat} {kvs : List (Str × D)} (ts : Str → List D) (p : Str → Bool) (f : Str → D) (hd : EvD0 K B td env kvs)
    (hg : ∀ x, x ∈ kvs.map (·.1) → EvG K g js (.str x) (ts x)) (hj : ∀ j ∈ js, j ∈ vs) (ht : ∀ x, x ∈ kvs.map (·.1) → EvT K B tt (setD (wipeE env vs) js (ts x)) (p x)) (he : ∀ x, x ∈ kvs.map (·.1) → p x = true → Ev K B te (setD (wipeE env vs) js (ts x)) (.im (f x)))
    (hl : kvs.length ≤ sizeLine) : Ev K B (tLkE (tLc (iKeys td) g tt te vs)) env (.nw (oM (.lst (((kvs.map (·.1)).filter p).map f)))) := fun F H σ R Q q => by
  obtain ⟨d, ks, rk, rd, hpos⟩ := hd F H σ R
  have hl' : (kvs.map (·.1)).length ≤ sizeLine := by rw [List.length_map]; exact hl
  rcases rd with e | ⟨od, e⟩
  · refine .inl ⟨d, .dK ks, e, trivial, fun od => ?_⟩
    have R' := R.lock (w := .frz od (.dK ks)) e nx_dK rfl
    refine lc_at (xs := kvs.map (·.1)) (enc := D.str) ts p f R' (iter_keysI rk upd_same R'.kn fun Q q => hpos _ R' Q q) hg hj ht he hl' fun v F' H' gr r => ?_
    obtain ⟨e', g'⟩ := Gr.unlock rfl e gr
    obtain ⟨O, h1, h2, h3, h4⟩ := r
    have nd : ∀ a u, O a = some u → a ≠ d := fun a u z y => h3 a u z (.frz od (.dK ks)) nt_frz (by rw [y]; exact upd_same)
    refine ⟨e', q v F' _ g' ⟨O, fun a u z => ⟨by rw [upd_ne (nd a u z)]; exact (h1 a u z).1, (h1 a u z).2⟩, h2, fun a u z w n x => h3 a u z w n (by rw [upd_ne (nd a u z)]; exact x), h4⟩⟩
  · exact .inr (lc_at (xs := kvs.map (·.1)) (enc := D.str) ts p f R (iter_keysI rk e R.kn fun Q q => hpos _ R Q q) hg hj ht he hl' q)
/-- what is not one's own is locked in the state of a def at work -/
theorem RelS.lock {d : Addr} {ks : List (Key × V)} {od : Obj} (R : RelS K B H0 F0 F H σ env) (e : H d = some (.dK ks)) (own : (∃ u, NT u ∧ F d = some u) ∨ ∃ u, NT u ∧ B d = some u) :
    ∃ H1, Gr F0 F H0 H1 ∧ H1 d = some (.dK ks) ∧ RelS K B (upd H1 d (.frz od (.dK ks))) F F (upd H d (.frz od (.dK ks))) σ env := by
  have bn : Bn B H0 := let ⟨_, R⟩ := R; R.bn
  obtain ⟨H1, g1, R1, le, at1⟩ := R.enter
  have e1 : H1 d = some (.dK ks) := by
    rcases own with ⟨u, n, z⟩ | ⟨u, n, z⟩
    · rw [at1 d u n (.inl z)]
      exact e
    · obtain ⟨u', z1, z2⟩ := bn.kn d u n z
      rw [at1 d u' (lk_nt n z2) (.inr z1)]
      exact e
  obtain ⟨Os, W⟩ := R1
  have nd : ∀ i a u, Os i a = some u → a ≠ d := fun i a u z y => W.oz i a u z (.dK ks) nt_dK (by rw [y]; exact e1)
  refine ⟨H1, g1, e1, Os, ⟨fun _ _ _ z => z, fun _ _ _ _ z => z, fun a u n z => ?_, fun t => ?_, W.gr.kn.lock e rfl⟩, ⟨W.bn.kn.lock e1 rfl, tabs_upd e1 nx_dK W.bn.tb⟩, W.len, W.sl, W.oo, W.of, fun i a u z w n x => ?_, fun i a u z => ?_⟩
  · by_cases y : a = d
    · rw [y, upd_same] at z
      rw [y, upd_same]
      exact z
    · rw [upd_ne y] at z
      rw [upd_ne y]
      exact le a u z
  · refine tabs_of (fun a u n z => ?_) t
    by_cases y : a = d
    · rw [y, upd_same] at z
      rw [y, upd_same]
      exact z
    · rw [upd_ne y] at z
      rw [upd_ne y]
      exact le a u z
  · rw [upd_ne (nd i a u z)] at x
    exact W.oz i a u z w n x
  · rw [upd_ne (nd i a u z)]
    exact W.oh i a u z
/-- .. and unlocked -/
theorem RelS.unlock {H1 F1 F2 H' : Hp} {d : Addr} {ks : List (Key × V)} {od : Obj} {σ' : L2.St} {env' : Env} (bn : Bn B H0) (g1 : Gr F0 F1 H0 H1) (e1 : H1 d = some (.dK ks)) (R : RelS K B (upd H1 d (.frz od (.dK ks))) F1 F2 H' σ' env') :
    H' d = some (.frz od (.dK ks)) ∧ RelS K B H0 F0 F2 (upd H' d (.dK ks)) σ' env' := by
  obtain ⟨Os, W⟩ := R
  obtain ⟨e', g'⟩ := Gr.unlock rfl e1 W.gr
  have nd : ∀ i a u, Os i a = some u → a ≠ d := fun i a u z y => W.oz i a u z (.frz od (.dK ks)) nt_frz (by rw [y]; exact upd_same)
  refine ⟨e', Os, g1.trans g', bn, W.len, W.sl, W.oo, W.of, fun i a u z => g1.mo a fun w n x => ?_, fun i a u z => ?_⟩
  · exact W.oz i a u z w n (by rw [upd_ne (nd i a u z)]; exact x)
  · rw [upd_ne (nd i a u z)]
    exact W.oh i a u z
/-- for x in d -/
theorem sx_forK {W : WX} {P : Out → Prop} {td : TE} {g : TG} {js : List Nat} {tb : WX → TS} {kvs : List (Str × D)} (ts : Str → List D) (hd : EvD K B td env kvs) (hg : ∀ x, x ∈ kvs.map (·.1) → EvG K g js (.str x) (ts x)) (Inv : Nat → Env → Prop) (h0 : Inv 0 env)
    (hs : ∀ W i x e, (kvs.map (·.1))[i]? = some x → Inv i e → Sx K B W (tb W) (setD e js (ts x)) (lp (Inv (i + 1)) P)) (he : ∀ e, Inv kvs.length e → P (.nx e)) : Sx K B W (tLkX W fun W => tFor (iKeys td) g (tb W)) env P := fun H0 F0 F H σ R D q => by
  obtain ⟨d, ks, rk, rd, own, hpos⟩ := hd F H σ R.e
  have bn : Bn B H0 := let ⟨_, R⟩ := R; R.bn
  have lenK : ks.length = kvs.length := rk.length
  have yld : ∀ {i : Nat} {ky : Key} {v : V}, ks[i]? = some (ky, v) → ∃ s, (kvs.map (·.1))[i]? = some s ∧ kV ky = .str s := fun hk => by
    obtain ⟨s, dd, h1, rfl, _⟩ := rk.getI hk
    exact ⟨s, by rw [List.getElem?_map, h1] <;> rfl, rfl⟩
  rcases rd with e | ⟨od, e⟩
  · refine .inl ⟨d, .dK ks, e, trivial, fun od => ?_⟩
    obtain ⟨H1, g1, e1, RL⟩ := R.lock (od := od) e own
    refine hpos _ RL.e _ ⟨d, od, rfl, .inl ⟨ks, upd_same, ?_⟩⟩
    refine for_it walk_keys (fun i σ1 H2 => ∃ e F1, Inv i e ∧ RelS K B (upd H1 d (.frz od (.dK ks))) F F1 H2 σ1 e) ⟨env, F, h0, RL⟩ ?_ ?_ ?_
    · intro i σ1 H2 _ ⟨e, F1, _, R2⟩
      obtain ⟨_, R2⟩ := R2
      exact R2.gr.hh d _ nt_frz upd_same
    · intro i x σ1 H2 H3 hi ⟨e, F1, i1, R2⟩ y
      obtain ⟨rfl, ky, v, hk, rfl⟩ := y
      obtain ⟨s, hs1, es⟩ := yld hk
      obtain ⟨us, ru, kg⟩ := hg s (List.mem_of_getElem? hs1) F1 H3 (kV ky) R2.e.kn (by rw [es]; exact .str s)
      refine kg σ1 _ ?_
      refine hs _ i s e hs1 i1 _ F F1 H3 _ (R2.sets ru) _ fun o p => ?_
      cases o with
      | nx e' => exact fun F3 H4 σ3 R3 => ⟨e', F3, p, R3⟩
      | ct e' => exact fun F3 H4 σ3 R3 => ⟨e', F3, p, R3⟩
      | bk e' =>
        intro F3 H4 σ3 R3
        obtain ⟨z1, z2⟩ := R3.unlock bn g1 e1
        exact ⟨z1, q _ (show P (.nx e') from p) F3 _ σ3 z2⟩
      | rt r e' =>
        cases r with
        | im dd =>
          intro F3 H4 σ3 v3 R3 r3
          obtain ⟨z1, z2⟩ := R3.unlock bn g1 e1
          exact ⟨z1, q _ p F3 _ σ3 v3 z2 r3⟩
        | nw o =>
          intro F3 H4 v3 g3 r3
          obtain ⟨z1, z2⟩ := Gr.unlock rfl e1 g3
          obtain ⟨O, h1, h2, h3, h4⟩ := r3
          have nd : ∀ a u, O a = some u → a ≠ d := fun a u z y => h3 a u z (.frz od (.dK ks)) nt_frz (by rw [y]; exact upd_same)
          exact ⟨z1, q _ p F3 _ v3 (g1.trans z2) ⟨O, fun a u z => ⟨by rw [upd_ne (nd a u z)]; exact (h1 a u z).1, (h1 a u z).2⟩, h2, fun a u z => g1.mo a fun w n x => h3 a u z w n (by rw [upd_ne (nd a u z)]; exact x), h4⟩⟩
        | lo o => exact q _ p
        | br o => exact q _ p
      | ex C e' =>
        intro F3 H4 σ3 R3
        obtain ⟨z1, z2⟩ := R3.unlock bn g1 e1
        exact ⟨z1, q (.ex C e') p F3 _ σ3 z2⟩
    · intro σ1 H2 ⟨e, F1, i1, R2⟩
      obtain ⟨z1, z2⟩ := R2.unlock bn g1 e1
      rw [lenK] at i1
      exact ⟨z1, q _ (he e i1) F1 _ σ1 z2⟩
  · refine .inr (hpos _ R.e _ ⟨d, od, rfl, .inl ⟨ks, e, ?_⟩⟩)
    obtain ⟨H1, g1, R1, le, at1⟩ := R.enter
    have e1 : H1 d = some (.frz od (.dK ks)) := by
      rcases own with ⟨u, n, z⟩ | ⟨u, n, z⟩
      · rw [at1 d u n (.inl z)]
        exact e
      · obtain ⟨u', z1, z2⟩ := bn.kn d u n z
        rw [at1 d u' (lk_nt n z2) (.inr z1)]
        exact e
    refine for_it walk_keys (fun i σ1 H2 => ∃ e F1, Inv i e ∧ RelS K B H1 F F1 H2 σ1 e) ⟨env, F, h0, R1⟩ ?_ ?_ ?_
    · intro i σ1 H2 _ ⟨e, F1, _, R2⟩
      obtain ⟨_, R2⟩ := R2
      exact R2.gr.hh d _ nt_frz e1
    · intro i x σ1 H2 H3 hi ⟨e, F1, i1, R2⟩ y
      obtain ⟨rfl, ky, v, hk, rfl⟩ := y
      obtain ⟨s, hs1, es⟩ := yld hk
      obtain ⟨us, ru, kg⟩ := hg s (List.mem_of_getElem? hs1) F1 H3 (kV ky) R2.e.kn (by rw [es]; exact .str s)
      refine kg σ1 _ ?_
      refine hs _ i s e hs1 i1 _ F F1 H3 _ (R2.sets ru) _ fun o p => ?_
      cases o with
      | nx e' => exact fun F3 H4 σ3 R3 => ⟨e', F3, p, R3⟩
      | ct e' => exact fun F3 H4 σ3 R3 => ⟨e', F3, p, R3⟩
      | bk e' => exact fun F3 H4 σ3 R3 => q _ (show P (.nx e') from p) F3 H4 σ3 (R3.leave g1 bn)
      | rt r e' => cases r <;> exact (q _ p).leave g1 bn
      | ex C e' => exact (q (.ex C e') p).leave g1 bn
    · intro σ1 H2 ⟨e, F1, i1, R2⟩
      rw [lenK] at i1
      exact q _ (he e i1) F1 H2 σ1 (R2.leave g1 bn)
end
end NM
/-! The orders that sorted goes by are total. -/
namespace NM
open PySem PySem.Spec PyProof.Rows L2
open PySem.W (DatumOrd Datum listLt Tup)
class TotO (α : Type) [DecidableEq α] [DatumOrd α] : Prop where
  irr : ∀ a : α, DatumOrd.lt a a = false
  tr : ∀ a b c : α, DatumOrd.lt a b = true → DatumOrd.lt b c = true → DatumOrd.lt a c = true
  tot : ∀ a b : α, a = b ∨ DatumOrd.lt a b = true ∨ DatumOrd.lt b a = true
section
variable {α : Type} [DecidableEq α] [DatumOrd α] [TotO α]
theorem TotO.asym {a b : α} (h : DatumOrd.lt a b = true) : DatumOrd.lt b a = false := by
  cases e : DatumOrd.lt b a with
  | false => rfl
  | true =>
    have z := TotO.tr a b a h e
    rw [TotO.irr] at z
    cases z
theorem leO_iff {a b : α} : leO a b = true ↔ a = b ∨ DatumOrd.lt a b = true := by
  unfold leO
  constructor
  · intro h
    rcases TotO.tot a b with e | e | e
    · exact .inl e
    · exact .inr e
    · rw [e] at h
      cases h
  · intro h
    rcases h with rfl | h
    · rw [TotO.irr] <;> rfl
    · rw [TotO.asym h] <;> rfl
theorem leO_trans {a b c : α} (h1 : leO a b = true) (h2 : leO b c = true) : leO a c = true := by
  rw [leO_iff] at *
  rcases h1 with rfl | h1
  · exact h2
  · rcases h2 with rfl | h2
    · exact .inr h1
    · exact .inr (TotO.tr _ _ _ h1 h2)
theorem leO_total (a b : α) : (leO a b || leO b a) = true := by
  rw [Bool.or_eq_true, leO_iff, leO_iff]
  rcases TotO.tot a b with e | e | e
  · exact .inl (.inl e)
  · exact .inl (.inr e)
  · exact .inr (.inr e)
theorem leO_anti {a b : α} (h1 : leO a b = true) (h2 : leO b a = true) : a = b := by
  rw [leO_iff] at *
  rcases h1 with e | h1
  · exact e
  · rcases h2 with e | h2
    · exact e.symm
    · have z := TotO.asym h1
      rw [h2] at z
      cases z
theorem sortO_perm (xs : List α) : (sortO xs).Perm xs := List.mergeSort_perm xs leO
theorem sortO_pw (xs : List α) : (sortO xs).Pairwise fun a b => leO a b = true := List.pairwise_mergeSort (le := leO) (fun a b c h1 h2 => leO_trans (a := a) (b := b) (c := c) h1 h2) (fun a b => leO_total a b) xs
theorem sortO_uniq {xs ys : List α} (p : ys.Perm xs) (h : ys.Pairwise fun a b => leO a b = true) : ys = sortO xs :=
  List.Perm.eq_of_pairwise (fun a b _ _ => leO_anti) h (sortO_pw xs) (p.trans (sortO_perm xs).symm)
theorem sortO_id {xs : List α} (h : xs.Pairwise fun a b => leO a b = true) : sortO xs = xs := List.mergeSort_of_pairwise h
theorem sortO_congr {xs ys : List α} (p : xs.Perm ys) : sortO xs = sortO ys := sortO_uniq ((sortO_perm xs).trans p) (sortO_pw xs)
theorem mem_sortO {xs : List α} {x : α} : x ∈ sortO xs ↔ x ∈ xs := (sortO_perm xs).mem_iff
theorem sortO_nodup {xs : List α} (h : xs.Nodup) : (sortO xs).Nodup := (sortO_perm xs).nodup_iff.mpr h
/-- rising, if no item stands twice -/
theorem sortO_lt {xs : List α} (h : xs.Nodup) : (sortO xs).Pairwise fun a b => DatumOrd.lt a b = true := by
  have h1 := sortO_pw xs
  have h2 : (sortO xs).Pairwise (· ≠ ·) := sortO_nodup h
  refine (h1.and h2).imp fun ⟨l, n⟩ => ?_
  rcases leO_iff.mp l with e | e
  · exact absurd e n
  · exact e
theorem lt_pw {xs : List α} (h : xs.Pairwise fun a b => DatumOrd.lt a b = true) : xs.Pairwise fun a b => leO a b = true := h.imp fun l => leO_iff.mpr (.inr l)
theorem lt_nodup {xs : List α} (h : xs.Pairwise fun a b => DatumOrd.lt a b = true) : xs.Nodup := h.imp fun l e => by
  rw [e, TotO.irr] at l
  cases l
end
instance : TotO Int where
  irr a := by show decide (a < a) = false; simp
  tr a b c := by
    show decide (a < b) = true → decide (b < c) = true → decide (a < c) = true
    simp only [decide_eq_true_eq]
    omega
  tot a b := by
    show a = b ∨ decide (a < b) = true ∨ decide (b < a) = true
    simp only [decide_eq_true_eq]
    omega
theorem str_ext {a b : Str} (h : a.cps.toList = b.cps.toList) : a = b := by
  obtain ⟨a⟩ := a
  obtain ⟨b⟩ := b
  obtain ⟨a⟩ := a
  obtain ⟨b⟩ := b
  have h : a = b := h
  rw [h]
instance : TotO Str where
  irr a := by
    show decide (a.cps.toList < a.cps.toList) = false
    exact decide_eq_false (List.lt_irrefl _)
  tr a b c := by
    show decide (a.cps.toList < b.cps.toList) = true → decide (b.cps.toList < c.cps.toList) = true → decide (a.cps.toList < c.cps.toList) = true
    simp only [decide_eq_true_eq]
    exact List.lt_trans
  tot a b := by
    show a = b ∨ decide (a.cps.toList < b.cps.toList) = true ∨ decide (b.cps.toList < a.cps.toList) = true
    simp only [decide_eq_true_eq]
    by_cases h1 : a.cps.toList < b.cps.toList
    · exact .inr (.inl h1)
    · by_cases h2 : b.cps.toList < a.cps.toList
      · exact .inr (.inr h2)
      · exact .inl (str_ext (List.le_antisymm (List.not_lt.mp h2) (List.not_lt.mp h1)))
section
variable {α β : Type} [DecidableEq α] [DatumOrd α] [TotO α] [DecidableEq β] [DatumOrd β] [TotO β]
theorem listLt_irr : ∀ xs : List α, listLt xs xs = false
  | [] => rfl
  | x :: xs => by
    unfold listLt
    rw [if_pos rfl]
    exact listLt_irr xs
theorem listLt_tr : ∀ xs ys zs : List α, listLt xs ys = true → listLt ys zs = true → listLt xs zs = true
  | [], [], _, h, _ => by cases h
  | [], _ :: _, [], _, h => by cases h
  | [], _ :: _, _ :: _, _, _ => rfl
  | _ :: _, [], _, h, _ => by cases h
  | _ :: _, _ :: _, [], _, h => by cases h
  | x :: xs, y :: ys, z :: zs, h1, h2 => by
    unfold listLt at *
    by_cases e1 : x = y
    · subst e1
      rw [if_pos rfl] at h1
      by_cases e2 : x = z
      · subst e2
        rw [if_pos rfl] at h2 ⊢
        exact listLt_tr xs ys zs h1 h2
      · rw [if_neg e2] at h2 ⊢
        exact h2
    · rw [if_neg e1] at h1
      by_cases e2 : y = z
      · subst e2
        rw [if_neg e1]
        exact h1
      · rw [if_neg e2] at h2
        have h3 := TotO.tr _ _ _ h1 h2
        by_cases e3 : x = z
        · subst e3
          rw [TotO.irr] at h3
          cases h3
        · rw [if_neg e3]
          exact h3
theorem listLt_tot : ∀ xs ys : List α, xs = ys ∨ listLt xs ys = true ∨ listLt ys xs = true
  | [], [] => .inl rfl
  | [], _ :: _ => .inr (.inl rfl)
  | _ :: _, [] => .inr (.inr rfl)
  | x :: xs, y :: ys => by
    unfold listLt
    by_cases e : x = y
    · subst e
      rw [if_pos rfl, if_pos rfl]
      rcases listLt_tot xs ys with h | h | h
      · exact .inl (by rw [h])
      · exact .inr (.inl h)
      · exact .inr (.inr h)
    · rw [if_neg e, if_neg (Ne.symm e)]
      rcases TotO.tot x y with h | h | h
      · exact absurd h e
      · exact .inr (.inl h)
      · exact .inr (.inr h)
instance : TotO (List α) where
  irr := listLt_irr
  tr := listLt_tr
  tot := listLt_tot
instance : TotO (Tup α) where
  irr a := listLt_irr a.items
  tr a b c := listLt_tr a.items b.items c.items
  tot a b := by
    rcases listLt_tot a.items b.items with h | h | h
    · refine .inl ?_
      cases a
      cases b
      exact congrArg _ h
    · exact .inr (.inl h)
    · exact .inr (.inr h)
end
end NM
/-! sorted(d), dict(pairs), {..: ..} upon data. -/
namespace NM
open PySem PySem.Spec PyProof.Rows L2
open PySem.W (DatumOrd)
variable [Tbs]
abbrev rSortDK : List V → Hp → VK → Prop := fun xs H Q => ∃ (a : Addr) (kvs : List (Key × V)) (ks : List Str), xs = [.ref a] ∧ Rd H a (.dK kvs) ∧ kvs.map (·.1) = ks.map Sum.inr ∧ ks.length < 64 ∧
    ∀ ys p, ys.Perm ks → sortedS ys = true → H p = none → Q (.ref p) (upd H p (.lst (ys.map V.str)))
theorem rising_pw : ∀ (l : List Str) (p : Str), risingS p l = true → (p :: l).Pairwise fun a b => leO a b = true
  | [], p, _ => List.pairwise_cons.mpr ⟨(fun _ h => nomatch h), .nil⟩
  | x :: r, p, h => by
    have h' : (!ltCps x.cps.toList p.cps.toList && risingS x r) = true := h
    obtain ⟨h1, h2⟩ := Bool.and_eq_true_iff.mp h'
    have ih := rising_pw r x h2
    have px : leO p x = true := by
      show (!decide (x.cps.toList < p.cps.toList)) = true
      rw [← ltCps_eq]
      exact h1
    refine List.pairwise_cons.mpr ⟨fun y hy => ?_, ih⟩
    rcases List.mem_cons.mp hy with rfl | hy
    · exact px
    · exact leO_trans px ((List.pairwise_cons.mp ih).1 y hy)
theorem sortedS_pw {ys : List Str} (h : sortedS ys = true) : ys.Pairwise fun a b => leO a b = true := by
  cases ys with
  | nil => exact .nil
  | cons x r => exact rising_pw r x h
/-- dict(pairs), {k: v} -/
def kmerge {α : Type} (ps : List (Str × α)) : List (Str × α) := ps.foldl (fun acc p => kput acc p.1 p.2) []
section
variable {K : PySem.W.Frag} {B : Hp} {env : Env} {t : TA} {kvs ps : List (Str × D)}
/-- sorted(d) -/
theorem ev_sortedD (h : EvA K B t env [.ob (.dct kvs)]) (hl : kvs.length < 64) : Ev K B (tCB rSortDK t) env (.nw (oM (.lst ((sortO (kvs.map (·.1))).map .str)))) :=
  ev_cb h fun B F H vs k ⟨H0, hv⟩ Q q => by
    cases hv with
    | cons hv hn =>
      cases hn
      obtain ⟨p, ks, rfl, ex, r⟩ := hv
      refine ⟨p, ks, kvs.map (·.1), rfl, ex, r.keys, by rw [List.length_map]; exact hl, fun ys l hp hs hn => ?_⟩
      have e := sortO_uniq hp (sortedS_pw hs)
      rw [e]
      exact q _ F _ (Gr.new k hn) (nw_new k hn (RpL.of_strs _))
abbrev rDictP (K : PySem.W.Frag) : List V → Hp → VK → Prop := fun xs H Q => ∃ (a : Addr) (ps : List Addr) (kvs : List (Key × V)), xs = [.ref a] ∧ SqL K H a (ps.map V.ref) ∧ Paired (fun p kv => SqT K H p [kV kv.1, kv.2]) ps kvs ∧
    ∀ p, H p = none → Q (.ref p) (upd H p (.dK (mergeK [] kvs)))
theorem RpK.merge {F : Hp} {more : List (Key × V)} {ps : List (Str × D)} (h : RpK K F more ps) : ∀ {ks : List (Key × V)} {qs : List (Str × D)}, RpK K F ks qs → RpK K F (mergeK ks more) (ps.foldl (fun acc p => kput acc p.1 p.2) qs) := by
  induction ps generalizing more with
  | nil =>
    intro ks qs s
    cases h
    exact s
  | cons p ps ih =>
    intro ks qs s
    cases h with
    | cons a r => exact ih r (s.put a)
/-- dict([(k, v), ..]) -/
theorem ev_dictP (h : EvA K B t env [.ob (.lst (ps.map fun p => .tup [.str p.1, p.2]))]) : Ev K B (tCB (rDictP K) t) env (.nw (oM (.dct (kmerge ps)))) :=
  ev_cb h fun B F H vs k ⟨H0, hv⟩ Q q => by
    cases hv with
    | cons hv hn =>
      cases hn
      obtain ⟨p, xs, rfl, ex, r⟩ := hv
      have key : ∀ {ps : List (Str × D)} {xs : List V}, RpL K F xs (ps.map fun p => .tup [.str p.1, p.2]) → ∃ (as : List Addr) (ks : List (Key × V)), xs = as.map V.ref ∧ Paired (fun p kv => SqT K H p [kV kv.1, kv.2]) as ks ∧ RpK K F ks ps := by
        intro ps
        induction ps with
        | nil => intro xs r; cases r; exact ⟨[], [], rfl, .nil, .nil⟩
        | cons a ps ih =>
          intro xs r
          cases r with
          | cons r1 r =>
            obtain ⟨as, ks, rfl, h2, h3⟩ := ih r
            obtain ⟨a0, ys, rfl, e0, r0⟩ := Rp.inv_tup r1
            cases r0 with
            | cons q1 r0 =>
              cases r0 with
              | cons q2 r0 =>
                cases r0
                obtain rfl := Rp.inv_str q1
                exact ⟨a0 :: as, (Sum.inr a.1, _) :: ks, rfl, .cons (k.sqT e0) h2, .cons q2 h3⟩
      obtain ⟨as, ks, rfl, h2, h3⟩ := key r
      exact ⟨p, as, ks, rfl, .inl (.inl ex), h2, fun l hn => q _ F _ (Gr.new k hn) (nw_newD k hn (RpK.merge h3 .nil))⟩
/-- the pairs of a display -/
def EvPs (K : PySem.W.Frag) (B : Hp) (trs : List (TE × TE)) (env : Env) (ps : List (Str × D)) : Prop :=
  ∀ F H σ, RelE K B F H σ env → ∀ Q : List (V × V) → Hp → Prop, (∀ (ks : List (Key × V)) F' H', Gr F F' H H' → RpK K F' ks ps → Q (ks.map fun kv => (kV kv.1, kv.2)) H') → tPairs trs σ H Q
theorem ep_nil : EvPs K B [] env [] := fun F H σ R Q q => q [] F H (Gr.refl R.kn) .nil
theorem ep_cons {tk tv : TE} {trs : List (TE × TE)} {s : Str} {d : D} (hk : Ev K B tk env (.im (.str s))) (hv : Ev K B tv env (.im d)) (hr : EvPs K B trs env ps) : EvPs K B ((tk, tv) :: trs) env ((s, d) :: ps) := fun F H σ R Q q =>
  hk F H σ R _ fun x F1 H1 g1 r1 => hv F1 H1 σ (R.step g1) _ fun y F2 H2 g2 r2 => hr F2 H2 σ ((R.step g1).step g2) _ fun ks F3 H3 g3 r3 => by
    obtain rfl := Rp.inv_str r1
    exact q ((Sum.inr s, y) :: ks) F3 H3 ((g1.trans g2).trans g3) (.cons (Rp.mono g3.fk r2) r3)
theorem ev_disp {trs : List (TE × TE)} (h : EvPs K B trs env ps) (hl : ps.length ≤ 15) : Ev K B (tDisp trs) env (.nw (oM (.dct (kmerge ps)))) := fun F H σ R Q q p hp => by
  have g0 : Gr F F H (upd H p (.dK [])) := Gr.new R.kn hp
  refine h F _ σ (R.step g0) _ fun ks F2 H2 g2 r2 => ?_
  have e2 : H2 p = some (.dK []) := g2.hh p _ nt_dK upd_same
  have g := g0.trans g2
  have fp : Fr F2 p := g2.fr p _ nt_dK upd_same (R.kn.free hp)
  refine ⟨e2, ks, rfl, by rw [r2.length]; exact hl, q _ F2 _ ⟨g.ff, g.fr, fun a u n z => ?_, fun t => ?_, fun a u n z => ?_⟩ ⟨cell p (.dK _), fun a u z => ?_, fun a u z => ?_, fun a u z => ?_, p, _, rfl, upd_same, RpK.merge r2 .nil⟩⟩
  · rw [upd_ne (ne_of_none z hp)]
    exact g.hh a u n z
  · exact tabs_upd e2 nx_dK (g.tb t)
  · rw [upd_ne (fp.ne n z)]
    exact g.kn a u n z
  · obtain ⟨rfl, rfl⟩ := of_cell z
    exact ⟨upd_same, nx_dK⟩
  · obtain ⟨rfl, rfl⟩ := of_cell z
    exact fp
  · obtain ⟨rfl, rfl⟩ := of_cell z
    exact Fr.of hp
end
/-! ### d != {} -/
def rNeD0 : R2 := fun x y H Q => ∃ a b ks, x = .ref a ∧ y = .ref b ∧ Rd H a (.dK ks) ∧ H b = some (.dK []) ∧ Q (.bl (!ks.isEmpty)) H
theorem op_neD0 {X : Cx} (hu : X.A.units < cLine) : OpR X (compareOp .NotEq) rNeD0 := by
  intro pins s σ H x y v u Q I rx ry h
  obtain ⟨a, b, ks, rfl, rfl, ea, eb, q⟩ := h
  obtain rfl : v = Value.ref a := rx
  obtain rfl : u = Value.ref b := ry
  obtain ⟨_, ya, va, ra, da⟩ := dk_rd I.hok ea
  obtain ⟨_, yb, vb, rb, db⟩ := (show ObjOk X.prog X.w H s.heap b (.dK []) from I.hok b _ eb)
  cases rb
  refine PySem.W.keq_ne (knd := mixKind X.prog X.w) (r := true) ya yb da db hu (fun h => ?_) ?_
  · have : va = [] := List.length_eq_zero_iff.mp h
    subst this
    exact .nil
  · refine ⟨.bl (!(va.length == ([] : List (Key × Value)).length && true)), H, I, rfl, ?_⟩
    have e : (!(va.length == ([] : List (Key × Value)).length && true)) = !ks.isEmpty := by
      have hl : ks.length = va.length := ra.length
      cases ks with
      | nil =>
        have : va = [] := List.length_eq_zero_iff.mp hl.symm
        subst this
        rfl
      | cons p r =>
        cases va with
        | nil => cases hl
        | cons q s => rfl
    rw [e]
    exact q
section
variable {K : PySem.W.Frag} {B : Hp} {env : Env} {ta tb : TE} {kvs : List (Str × D)}
theorem ev_neD0 (ha : Ev K B ta env (.ob (.dct kvs))) (hb : Ev K B tb env (.nw (oM (.dct [])))) : Ev K B (tOp rNeD0 ta tb) env (.im (.bl (!kvs.isEmpty))) :=
  ev_op ha hb fun B F H x y k ⟨_, hx⟩ ⟨_, hy⟩ Q q => by
    obtain ⟨p, ks, rfl, ex, r⟩ := hx
    obtain ⟨O, h1, _, _, p', ls, rfl, e', r'⟩ := hy
    cases r'
    refine ⟨p, p', ks, rfl, rfl, ex, (h1 _ _ e').1, ?_⟩
    have e : ks.isEmpty = kvs.isEmpty := by
      cases r with
      | nil => rfl
      | cons a r => rfl
    rw [e]
    exact q _ F H (Gr.refl k) (.bl _)
end
end NM
/-! a, b = e1, [e2], e2 writing a thing of one's own. -/
namespace NM
open PySem PySem.Spec PyProof.Rows L2
variable [Tbs]
/-- H without one's own parts, as a new entry -/
theorem RelW.enter' {K : PySem.W.Frag} {B H0 F0 F H : Hp} {σ : L2.St} {env : Env} {Os : Nat → Hp} (R : RelW K B H0 F0 F H σ env Os) : ∃ H1, Gr F0 F H0 H1 ∧ RelW K B H1 F F H σ env Os ∧ (∀ a u, H1 a = some u → H a = some u) ∧ ∀ a, (∀ i, Os i a = none) → H1 a = H a := by
  have cl : ∀ a, Decidable (∃ i u, Os i a = some u) := fun a => Classical.propDecidable _
  generalize hH1 : (fun a => if ∃ i u, Os i a = some u then none else H a : Hp) = H1
  have out : ∀ a, (∀ i, Os i a = none) → H1 a = H a := fun a h => by
    rw [← hH1]
    exact if_neg fun ⟨i, u, e⟩ => by rw [h i] at e; cases e
  have inn : ∀ i a u, Os i a = some u → H1 a = none := fun i a u e => by
    rw [← hH1]
    exact if_pos ⟨i, u, e⟩
  have le : ∀ a u, H1 a = some u → H a = some u := fun a u e => by
    by_cases z : ∃ i u, Os i a = some u
    · obtain ⟨i, w, z⟩ := z
      rw [inn i a w z] at e
      cases e
    · rw [out a fun i => by
        cases y : Os i a with
        | none => rfl
        | some w => exact absurd ⟨i, w, y⟩ z] at e
      exact e
  have nx : ∀ a u, ¬ NX u → H a = some u → H1 a = some u := fun a u n e => by
    rw [out a fun i => ?_]
    · exact e
    · cases y : Os i a with
      | none => rfl
      | some w =>
        obtain ⟨q1, q2⟩ := R.oh i a w y
        rw [q1] at e
        cases e
        exact absurd q2 n
  have g1 : Gr F0 F H0 H1 := ⟨R.gr.ff, R.gr.fr, fun a u n e => by rw [out a fun i => (R.oz i).none_of n e]; exact R.gr.hh a u n e, fun t => tabs_of nx (R.gr.tb t), fun a u n e => by rw [out a fun i => (R.of i).none_of n e]; exact R.gr.kn a u n e⟩
  exact ⟨H1, g1, ⟨⟨fun _ _ _ e => e, fun _ _ _ _ e => e, fun a u _ e => le a u e, fun t => tabs_of (fun a u _ e => le a u e) t, R.gr.kn⟩, R.bn.step g1, R.len, R.sl, R.oo, R.of, fun i a u e => Fr.of (inn i a u e), R.oh⟩, le, out⟩
section
variable {K : PySem.W.Frag} {B : Hp} {env env' : Env} {W : WX} {P : Out → Prop} {ta te : TE} {o : Ow} {d : D} {i j : Nat}
theorem sx_parNP (h1 : Ev K B ta env (.nw o)) (h2 : EvS K B te env d env') (p : P (.nx ((env'.set i (.ow o)).set j (.ow (oM (.lst [d])))))) (hij : i ≠ j := by decide) :
    Sx K B W (tPar i j (tCons ta (tCons (tLst (tCons te tNil)) tNil))) env P := fun H0 F0 F H σ R D q => by
  have bn : Bn B H0 := let ⟨_, R⟩ := R; R.bn
  refine h1 F H σ R.e _ fun v F1 H1 g1 r1 => ?_
  obtain ⟨O, o1, o2, o3, o4⟩ := r1
  obtain ⟨Os, W1⟩ := R
  have W2 := W1.step g1
  obtain ⟨Hm, gm, RE, le, out⟩ := W2.enter'
  have oOs : ∀ a u, O a = some u → ∀ i, Os i a = none := fun a u e i => by
    cases z : Os i a with
    | none => rfl
    | some w =>
      obtain ⟨q1, q2⟩ := W1.oh i a w z
      exact absurd q1 (o3 a u e w q2.1)
  have inO : ∀ a u, O a = some u → Hm a = some u := fun a u e => by rw [out a (oOs a u e)]; exact (o1 a u e).1
  refine h2 Hm F1 F1 H1 σ ⟨Os, RE⟩ _ fun y F2 H2 R2 ry => ?_
  obtain ⟨Os2, R2⟩ := R2
  refine ⟨Nat.le_of_ble_eq_true rfl, fun p2 hp2 => ⟨v, .ref p2, rfl, ?_⟩⟩
  have g3 : Gr F2 F2 H2 (upd H2 p2 (.lst [y])) := Gr.new R2.gr.kn hp2
  have R3 : RelW K B H0 F0 F2 (upd H2 p2 (.lst [y])) σ env' Os2 := ⟨(gm.trans R2.gr).trans g3, bn, R2.len, fun l s e => (R2.step g3).sl l s e, R2.oo, R2.of, fun l a u e => gm.mo a (R2.oz l a u e), (R2.step g3).oh⟩
  have R4 := R3.setO (i := i) (O := O) (v := v) (o := o) (fun a u e => ⟨g3.hh a u (o1 a u e).2.1 (R2.gr.hh a u (o1 a u e).2.1 (inO a u e)), (o1 a u e).2⟩) (fun a u e => R2.gr.fr a u (o1 a u e).2.1 (inO a u e) (o2 a u e)) (fun l _ a u e => by
    cases z : Os2 l a with
    | none => rfl
    | some w => exact absurd (inO a u e) (R2.oz l a w z u (o1 a u e).2.1)) (fun a u e => W1.gr.mo a (o3 a u e)) (o.mono R2.gr.fk o4)
  refine q _ p F2 _ _ ⟨_, R4.setO (i := j) (O := cell p2 (.lst [y])) (fun a u e => ?_) (fun a u e => ?_) (fun l hl a u e => ?_) (fun a u e => ?_) ⟨p2, [y], rfl, upd_same, .cons ry .nil⟩⟩
  · obtain ⟨rfl, rfl⟩ := of_cell e
    exact ⟨upd_same, nx_lst⟩
  · obtain ⟨rfl, rfl⟩ := of_cell e
    exact R2.gr.kn.free hp2
  · obtain ⟨rfl, rfl⟩ := of_cell e
    by_cases z : l = i
    · rw [z, re_same]
      cases y2 : O a with
      | none => rfl
      | some w =>
        have q1 := R2.gr.hh a w (o1 a w y2).2.1 (inO a w y2)
        rw [hp2] at q1
        cases q1
    · rw [re_ne z]
      cases y2 : Os2 l a with
      | none => rfl
      | some w =>
        have q1 := (R2.oh l a w y2).1
        rw [hp2] at q1
        cases q1
  · obtain ⟨rfl, rfl⟩ := of_cell e
    exact (gm.trans R2.gr).mo a (Fr.of hp2)
end
end NM
/-! Programs as plain functions (Pg), and that a statement's reading does what such a function tells (Sq). -/
namespace NM
open PySem PySem.Spec PyProof.Rows L2
/-! ### plain programs -/
inductive Oc (σ ρ : Type) where
  | nx (s : σ) | rt (r : ρ) | bk (s : σ) | ct (s : σ) | ex (c : Str)
/-- none: nothing is told -/
abbrev Pg (σ ρ : Type) := Option (Oc σ ρ)
section
variable {α β γ δ σ τ ρ : Type}
noncomputable def gd (p : Prop) (m : Option α) : Option α := @ite _ p (Classical.propDecidable p) m none
theorem gd_pos {p : Prop} {m : Option α} (h : p) : gd p m = m := @if_pos _ (Classical.propDecidable p) h _ _ _
theorem gd_some {p : Prop} {m : Option α} {a : α} (h : gd p m = some a) : p ∧ m = some a := by
  by_cases q : p
  · rw [gd_pos q] at h
    exact ⟨q, h⟩
  · unfold gd at h
    rw [@if_neg _ (Classical.propDecidable p) q] at h
    cases h
def lt (a : α) (k : α → β) : β := k a
def lt2 (p : α × β) (k : α → β → δ) : δ := k p.1 p.2
def lt3 (p : α × β × γ) (k : α → β → γ → δ) : δ := k p.1 p.2.1 p.2.2
def lt4 {ε : Type} (p : α × β × γ × ε) (k : α → β → γ → ε → δ) : δ := k p.1 p.2.1 p.2.2.1 p.2.2.2
def bindO : Pg σ ρ → (σ → Pg τ ρ) → Pg τ ρ
  | some (.nx s), k => k s
  | some (.rt r), _ => some (.rt r)
  | some (.ex c), _ => some (.ex c)
  | _, _ => none
/-- what never falls through -/
def nn : Pg σ ρ → Pg σ ρ
  | some (.nx _) => none
  | m => m
def forO (step : α → σ → Pg σ ρ) : List α → σ → Pg σ ρ
  | [], s => some (.nx s)
  | x :: xs, s => match step x s with
    | some (.nx s') => forO step xs s'
    | some (.ct s') => forO step xs s'
    | some (.bk s') => some (.nx s')
    | some (.rt r) => some (.rt r)
    | some (.ex c) => some (.ex c)
    | none => none
def itO (p : σ → Prop) (c : σ → Bool) (body : σ → Pg σ ρ) : Nat → σ → Pg σ ρ → Prop
  | 0, _, _ => False
  | n + 1, s, o => p s ∧ (c s = false ∧ o = some (.nx s) ∨ c s = true ∧ match body s with
    | some (.nx s') => itO p c body n s' o
    | some (.ct s') => itO p c body n s' o
    | some (.bk s') => o = some (.nx s')
    | some (.rt r) => o = some (.rt r)
    | some (.ex e) => o = some (.ex e)
    | none => False)
/-- some end of a while -/
noncomputable def whileO (p : σ → Prop) (c : σ → Bool) (body : σ → Pg σ ρ) (s : σ) : Pg σ ρ :=
  @dite _ (∃ n o, itO p c body n s o) (Classical.propDecidable _) (fun h => Classical.choose (Classical.choose_spec h)) fun _ => none
theorem itO_det {p : σ → Prop} {c : σ → Bool} {body : σ → Pg σ ρ} : ∀ {n m : Nat} {s : σ} {o o' : Pg σ ρ}, itO p c body n s o → itO p c body m s o' → o = o'
  | 0, _, _, _, _, h, _ => h.elim
  | _ + 1, 0, _, _, _, _, h => h.elim
  | n + 1, m + 1, s, o, o', h, h' => by
    unfold itO at h h'
    obtain ⟨_, h⟩ := h
    obtain ⟨_, h'⟩ := h'
    rcases h with ⟨c1, e1⟩ | ⟨c1, e1⟩ <;> rcases h' with ⟨c2, e2⟩ | ⟨c2, e2⟩
    · rw [e1, e2]
    · rw [c1] at c2; cases c2
    · rw [c1] at c2; cases c2
    · cases q : body s with
      | none => rw [q] at e1; exact e1.elim
      | some w =>
        rw [q] at e1 e2
        cases w with
        | nx s' => exact itO_det e1 e2
        | ct s' => exact itO_det e1 e2
        | bk s' => exact Eq.trans e1 (Eq.symm e2)
        | rt s' => exact Eq.trans e1 (Eq.symm e2)
        | ex s' => exact Eq.trans e1 (Eq.symm e2)
theorem whileO_eq {p : σ → Prop} {c : σ → Bool} {body : σ → Pg σ ρ} {n : Nat} {s : σ} {o : Pg σ ρ} (h : itO p c body n s o) : whileO p c body s = o := by
  have q : ∃ n o, itO p c body n s o := ⟨n, o, h⟩
  unfold whileO
  rw [@dif_pos _ (Classical.propDecidable _) q]
  obtain h2 := Classical.choose_spec (Classical.choose_spec q)
  exact itO_det h2 h
theorem whileO_some {p : σ → Prop} {c : σ → Bool} {body : σ → Pg σ ρ} {s : σ} {o : Oc σ ρ} (h : whileO p c body s = some o) : ∃ n, itO p c body n s (some o) := by
  by_cases q : ∃ n o, itO p c body n s o
  · unfold whileO at h
    rw [@dif_pos _ (Classical.propDecidable _) q] at h
    refine ⟨Classical.choose q, ?_⟩
    rw [← h]
    exact Classical.choose_spec (Classical.choose_spec q)
  · unfold whileO at h
    rw [@dif_neg _ (Classical.propDecidable _) q] at h
    cases h
/-- a call for its effect (what it raises goes on) -/
def callN (m : Pg Unit ρ) (k : Pg σ τ) : Pg σ τ := match m with
  | some (.nx _) => k
  | some (.rt _) => k
  | some (.ex c) => some (.ex c)
  | _ => none
/-- a call for its value -/
def callO (m : Pg Unit ρ) (k : ρ → Pg σ τ) : Pg σ τ := match m with
  | some (.rt r) => k r
  | some (.ex c) => some (.ex c)
  | _ => none
def valO [Inhabited ρ] (m : Pg Unit ρ) : ρ := match m with
  | some (.rt r) => r
  | _ => default
def IsRt (m : Pg Unit ρ) : Prop := ∃ r, m = some (.rt r)
theorem valO_rt [Inhabited ρ] {m : Pg Unit ρ} (h : IsRt m) : m = some (.rt (valO m)) := by
  obtain ⟨r, rfl⟩ := h
  rfl
theorem valO_eq [Inhabited ρ] {m : Pg Unit ρ} {r : ρ} (h : m = some (.rt r)) : valO m = r := by rw [h]; rfl
end
/-! ### data of types -/
abbrev keysOf {α : Type} (kvs : List (Str × α)) : List Str := kvs.map (·.1)
instance : Inhabited D := ⟨.non⟩
abbrev eI (i : Int) : D := .int i
abbrev eB (b : Bool) : D := .bl b
abbrev eS (s : Str) : D := .str s
abbrev eU (_ : Unit) : D := .non
abbrev eA (d : D) : D := d
section
variable {α β γ δ : Type}
abbrev eL (f : α → D) (xs : List α) : D := .lst (xs.map f)
abbrev eR (f : α → D) (xs : List α) : D := .tup (xs.map f)
abbrev eP (f : α → D) (g : β → D) (p : α × β) : D := .tup [f p.1, g p.2]
abbrev e3 (f : α → D) (g : β → D) (h : γ → D) (p : α × β × γ) : D := .tup [f p.1, g p.2.1, h p.2.2]
abbrev e4 (f : α → D) (g : β → D) (h : γ → D) (i : δ → D) (p : α × β × γ × δ) : D := .tup [f p.1, g p.2.1, h p.2.2.1, i p.2.2.2]
abbrev eD (f : α → D) (kvs : List (Str × α)) : D := .dct (emap f kvs)
def eO (f : α → D) : Option α → D
  | none => .non
  | some a => f a
theorem eL_snoc (f : α → D) (xs : List α) (a : α) : eL f (xs ++ [a]) = .lst (xs.map f ++ [f a]) := by simp
theorem eL_app (f : α → D) (xs ys : List α) : eL f (xs ++ ys) = .lst (xs.map f ++ ys.map f) := by simp
end
variable [Tbs]
section
variable {α : Type}
theorem eD_put (f : α → D) (kvs : List (Str × α)) (s : Str) (a : α) : eD f (kput kvs s a) = .dct (kput (emap f kvs) s (f a)) := congrArg D.dct (kput_emap f kvs s a).symm
theorem eD_drop (f : α → D) (kvs : List (Str × α)) (s : Str) : eD f (kdrop kvs s) = .dct (kdrop (emap f kvs) s) := congrArg D.dct (kdrop_emap f kvs s).symm
theorem eL_erase (f : α → D) (xs : List α) (n : Nat) : eL f (xs.eraseIdx n) = .lst ((xs.map f).eraseIdx n) := by
  show D.lst _ = D.lst _
  congr 1
  induction xs generalizing n with
  | nil => rfl
  | cons a r ih => cases n with
    | zero => rfl
    | succ n => show f a :: _ = f a :: _; rw [ih]
end
/-! ### what a reading does -/
section
variable {σ τ ρ : Type}
/-- how a result is handed back; how the names stand at a return, at a refusal -/
structure RE (ρ : Type) where
  er : ρ → Vl
  xr : ρ → Env
  xe : Env
/-- some slots are forgotten -/
inductive Wk : Env → Env → Prop
  | nil : Wk [] []
  | eq {s : Sl} {e e' : Env} : Wk e e' → Wk (s :: e) (s :: e')
  | un {s : Sl} {e e' : Env} : Wk e e' → Wk (s :: e) (.un :: e')
def oIs (K : PySem.W.Frag) (ek : σ → Env) (er : RE ρ) : Oc σ ρ → Out → Prop
  | .nx s, o => o = .nx (ek s)
  | .rt r, o => ∃ e, o = .rt (er.er r) e ∧ Wk e (er.xr r)
  | .bk s, o => o = .bk (ek s)
  | .ct s, o => o = .ct (ek s)
  | .ex c, o => ∃ e, o = .ex (He.ga K c) e ∧ Wk e er.xe
def Sq (K : PySem.W.Frag) (B : Hp) (W : WX) (t : TS) (env : Env) (ek : σ → Env) (er : RE ρ) (m : Pg σ ρ) : Prop := ∀ o, m = some o → Sx K B W t env (oIs K ek er o)
theorem wk_rep : ∀ {e : Env} {n : Nat}, e.length = n → Wk e (List.replicate n .un)
  | [], 0, _ => .nil
  | _ :: e, n + 1, h => .un (wk_rep (by simpa using h))
theorem Wk.refl : ∀ e : Env, Wk e e
  | [] => .nil
  | _ :: e => .eq (Wk.refl e)
theorem Wk.len {e e' : Env} (h : Wk e e') : e'.length = e.length := by
  induction h with
  | nil => rfl
  | eq _ ih => rw [List.length_cons, List.length_cons, ih]
  | un _ ih => rw [List.length_cons, List.length_cons, ih]
theorem Wk.at {e e' : Env} (h : Wk e e') : ∀ {i : Nat} {s : Sl}, e'[i]? = some s → s = .un ∨ e[i]? = some s := by
  induction h with
  | nil => intro i s z; simp at z
  | eq _ ih =>
    intro i s z
    cases i with
    | zero => exact .inr z
    | succ i => exact ih (i := i) (by simpa using z)
  | un _ ih =>
    intro i s z
    cases i with
    | zero =>
      simp at z
      exact .inl z.symm
    | succ i => exact ih (i := i) (by simpa using z)
variable {K : PySem.W.Frag} {B H0 F0 F H : Hp} {σs : L2.St} {W : WX} {env env' : Env}
theorem RelS.wk (w : Wk env env') (R : RelS K B H0 F0 F H σs env) : RelS K B H0 F0 F H σs env' := by
  obtain ⟨Os, R⟩ := R
  refine ⟨Os, R.gr, R.bn, by rw [R.len, w.len], fun j s q => ?_, R.oo, R.of, R.oz, R.oh⟩
  rcases w.at q with rfl | h
  · trivial
  · exact R.sl j s h
theorem RelE.wk (w : Wk env env') (R : RelE K B F H σs env) : RelE K B F H σs env' := by
  refine ⟨R.kn, R.bn, by rw [R.len, w.len], fun j s q => ?_⟩
  rcases w.at q with rfl | h
  · trivial
  · exact R.sl j s h
theorem sx_wk {t : TS} {P : Out → Prop} (w : Wk env env') (h : Sx K B W t env' P) : Sx K B W t env P := fun H0 F0 F H σ R D q => h H0 F0 F H σ (R.wk w) D q
end
section
variable {σ τ ρ α β γ δ ε : Type} {K : PySem.W.Frag} {B : Hp} {W : WX} {env env' : Env} {t u : TS} {te ta tb ty : TE} {c : TT} {ek : σ → Env} {er : RE ρ} {m m' : Pg σ ρ} {i j l : Nat} {g : TG}
theorem so_wk (w : Wk env env') (h : Sq K B W t env' ek er m) : Sq K B W t env ek er m := fun o e => sx_wk w (h o e)
theorem so_gd {p : Prop} (h : p → Sq K B W t env ek er m) : Sq K B W t env ek er (gd p m) := fun o e => h (gd_some e).1 o (gd_some e).2
theorem so_nx {s : σ} (w : Wk env (ek s)) : Sq K B W tNext env ek er (some (.nx s)) := fun o e => by
  cases e
  exact sx_wk w (sx_next rfl)
theorem so_bk {s : σ} (w : Wk env (ek s)) : Sq K B W (tSeq tBreak u) env ek er (some (.bk s)) := fun o e => by
  cases e
  exact sx_wk w (sx_seq (sx_brk rfl))
theorem so_asg (en : α → D) {a : α} {k : α → Pg σ ρ} (he : Ev K B te env (.im (en a))) (h : ∀ x, Sq K B W u (env.set i (.im (en x))) ek er (k x)) : Sq K B W (tSeq (tAsg te (gName i)) u) env ek er (lt a k) := fun o e =>
  sx_seq (sx_asg he (h a o e))
theorem so_asgW (en : α → Ow) {a : α} {k : α → Pg σ ρ} (he : Ev K B te env (.nw (en a))) (h : ∀ x, Sq K B W u (env.set i (.ow (en x))) ek er (k x)) : Sq K B W (tSeq (tAsg te (gName i)) u) env ek er (lt a k) := fun o e =>
  sx_seq (sx_asgW he (h a o e))
theorem so_asgB (en : α → Ob) {a : α} {k : α → Pg σ ρ} (he : Ev K B te env (.br (en a))) (h : ∀ x, Sq K B W u (env.set i (.br (en x))) ek er (k x)) : Sq K B W (tSeq (tAsg te (gName i)) u) env ek er (lt a k) := fun o e =>
  sx_seq (sx_asgB he (h a o e))
theorem so_un2 (f : α → D) (f' : β → D) {p : α × β} {k : α → β → Pg σ ρ} (he : Ev K B te env (.im (eP f f' p))) (h : ∀ x y, Sq K B W u ((env.set i (.im (f x))).set j (.im (f' y))) ek er (k x y)) :
    Sq K B W (tSeq (tAsg te (gTup K 2 (gCons (gName i) (gCons (gName j) gNil)))) u) env ek er (lt2 p k) := fun o e =>
  sx_seq (sx_asgG he eg_two (h p.1 p.2 o e))
theorem so_un3 (f : α → D) (f' : β → D) (f2 : γ → D) {p : α × β × γ} {k : α → β → γ → Pg σ ρ} (he : Ev K B te env (.im (e3 f f' f2 p))) (h : ∀ x y z, Sq K B W u (((env.set i (.im (f x))).set j (.im (f' y))).set l (.im (f2 z))) ek er (k x y z)) :
    Sq K B W (tSeq (tAsg te (gTup K 3 (gCons (gName i) (gCons (gName j) (gCons (gName l) gNil))))) u) env ek er (lt3 p k) := fun o e =>
  sx_seq (sx_asgG he eg_three (h p.1 p.2.1 p.2.2 o e))
theorem so_ret {a : ρ} {r : Vl} (he : Ev K B te env r) (e0 : r = er.er a) (hb : Back r) (w : Wk env (er.xr a)) : Sq K B W (tSeq (tRet te) u) env ek er (some (.rt a)) := fun o e => by
  cases e
  subst e0
  cases q : er.er a with
  | im d => rw [q] at he; exact sx_seq (sx_ret he (show oIs K ek er (.rt a) (.rt (.im d) env) from ⟨env, by rw [q], w⟩))
  | nw d => rw [q] at he; exact sx_seq (sx_retW he (show oIs K ek er (.rt a) (.rt (.nw d) env) from ⟨env, by rw [q], w⟩))
  | lo d => rw [q] at hb; exact hb.elim
  | br d => rw [q] at hb; exact hb.elim
/-- return x, x a thing of one's own -/
theorem so_retO {a : ρ} {o : Ow} (h : env[i]? = some (.ow o)) (e0 : er.er a = .nw o) (w : Wk env (er.xr a)) : Sq K B W (tSeq (tRet (tVar i)) u) env ek er (some (.rt a)) := fun o e => by
  cases e
  exact sx_seq (sx_retO h (show oIs K ek er (.rt a) _ from ⟨env, by rw [e0], w⟩))
theorem so_retN {a : ρ} (e0 : er.er a = .im .non) (w : Wk env (er.xr a)) : Sq K B W (tSeq tRetN u) env ek er (some (.rt a)) := fun o e => by
  cases e
  exact sx_seq (sx_retN (show oIs K ek er (.rt a) _ from ⟨env, by rw [e0], w⟩))
theorem so_raise {cc : Str} (w : Wk env er.xe) : Sq K B W (tSeq (fun _ σ H => (fun σ H (Q : XK) => Q (.ref (He.ga K cc)) none H) σ H fun cls d H' => W cls d σ H') u) env ek er (some (.ex cc)) := fun o e => by
  cases e
  exact sx_seq (sx_raise (show oIs K ek er (.ex cc) _ from ⟨env, rfl, w⟩))
theorem so_if {b : Bool} (hc : EvT K B c env b) (h1 : b = true → Sq K B W t env ek er m) (h2 : b = false → Sq K B W u env ek er m') : Sq K B W (tIfS c t u) env ek er (cond b m m') := fun o e => by
  refine sx_if hc (fun z => ?_) fun z => ?_
  · subst z; exact h1 rfl o e
  · subst z; exact h2 rfl o e
/-- if .. that leaves -/
theorem so_ifX {b : Bool} (hc : EvT K B c env b) (h1 : b = true → Sq K B W t env ek er m) (h2 : b = false → Sq K B W u env ek er m') : Sq K B W (tSeq (tIfS c t tNext) u) env ek er (cond b (nn m) m') := fun o e => by
  refine sx_seq (sx_if hc (fun z => ?_) fun z => ?_)
  · subst z
    have e : nn m = some o := e
    have e' : m = some o := by
      cases m with
      | none => cases e
      | some w => cases w <;> first | exact e | cases e
    refine sx_weak (h1 rfl o e') fun o' q => ?_
    cases o with
    | nx s => rw [e'] at e; cases e
    | rt r => obtain ⟨e2, rfl, w⟩ := q; exact ⟨e2, rfl, w⟩
    | bk s => obtain rfl := q; exact rfl
    | ct s => obtain rfl := q; exact rfl
    | ex s => obtain ⟨e2, rfl, w⟩ := q; exact ⟨e2, rfl, w⟩
  · subst z
    exact sx_next (h2 rfl o e)
theorem so_bind {m : Pg τ ρ} {ek1 : τ → Env} {k : τ → Pg σ ρ} (h1 : Sq K B W t env ek1 er m) (h2 : ∀ s, Sq K B W u (ek1 s) ek er (k s)) : Sq K B W (tSeq t u) env ek er (bindO m k) := fun o e => by
  cases q : m with
  | none => rw [q] at e; cases e
  | some w =>
    rw [q] at e
    refine sx_seq (sx_weak (h1 w q) fun o' z => ?_)
    cases w with
    | nx s => obtain rfl := z; exact h2 s o e
    | rt r => cases e; obtain ⟨e2, rfl, w⟩ := z; exact ⟨e2, rfl, w⟩
    | ex c => cases e; obtain ⟨e2, rfl, w⟩ := z; exact ⟨e2, rfl, w⟩
    | bk s => cases e
    | ct s => cases e
/-- what is one's own is frozen -/
theorem so_frz {d : D} (i : Nat) (h : env[i]? = some (.ow (oM d))) (k : Sq K B W t (env.set i (.im d)) ek er m) : Sq K B W t env ek er m := fun o e => sx_freeze h (k o e)
/-! ### loops -/
def IterB (K : PySem.W.Frag) (B : Hp) (wi : TI) (σ : L2.St) (F H : Hp) (ds : List D) : Prop :=
  ∀ R : It → Hp → Prop, (∀ (J : It) (F' H' : Hp) (G : Hp → Prop) (Y : Nat → Hp → V → Hp → Prop), Gr F F' H H' → Walk J ds.length G Y → (∀ H2, Kn F' H2 → Kn B H2 → G H2) →
    (∀ i H1 x H2, i < ds.length → Y i H1 x H2 → ∀ F1, Kn F1 H1 → (∀ a u, NT u → F' a = some u → F1 a = some u) → ∃ F2 d, Gr F1 F2 H1 H2 ∧ ds[i]? = some d ∧ Rp K F2 x d) → R J H') → wi σ H R
/-- what stays, frozen or borrowed, is walked -/
def EvW (K : PySem.W.Frag) (B : Hp) (wi : TI) (env : Env) (ds : List D) : Prop := ∀ F H σ, RelE K B F H σ env → IterB K B wi σ F H ds
theorem EvF.w {wi : TI} {ds : List D} (h : EvF K B wi env ds) : EvW K B wi env ds := fun F H σ R Q q => h F H σ R Q fun J F' H' G Y g w s y => q J F' H' G Y g w (fun H2 k _ => s H2 k) y
theorem ew_listB {tl : TE} {ds : List D} (h : Ev K B tl env (.br (oB (.lst ds)))) : EvW K B (iList K tl) env ds := fun F H σ R Q q =>
  h F H σ R _ fun v F' H' g r => by
    obtain ⟨a, xs, rfl, e, r⟩ := r
    refine ⟨a, rfl, ⟨xs, .inl (.inl ((R.bn.step g).kn.lst e))⟩, ?_⟩
    have w : Walk (Itl K a) ds.length (fun H => SqL K H a xs) (YAt xs) := by
      rw [← r.length]
      exact walk_list
    refine q _ F' H' _ _ g w (fun H2 _ k => .inl (.inl (k.lst e))) fun i H1 x H2 hi y F1 k ff => ?_
    obtain ⟨rfl, hx⟩ := y
    obtain ⟨d, hd, rd⟩ := r.getV hx
    exact ⟨F1, d, Gr.refl k, hd, rd.mono (.of ff)⟩
theorem sx_forI {P : Out → Prop} {wi : TI} {js : List Nat} {tb : TS} {ds : List D} (ts : Nat → List D) (h : EvW K B wi env ds) (hg : ∀ i d, ds[i]? = some d → EvG K g js d (ts i)) (Inv : Nat → Env → Prop) (h0 : Inv 0 env)
    (hs : ∀ i d e, ds[i]? = some d → Inv i e → Sx K B W tb (setD e js (ts i)) (lp (Inv (i + 1)) P)) (hd : ∀ e, Inv ds.length e → P (.nx e)) : Sx K B W (tFor wi g tb) env P := fun H0 F0 F H σ R D q => by
  refine h F H σ R.e _ fun J F' H' G Y gr w hG hY => ?_
  have bn : Bn B H0 := let ⟨_, R⟩ := R; R.bn
  obtain ⟨H1, g1, R1, _⟩ := (R.step gr).enter
  refine for_it w (fun i σ1 H2 => ∃ e F1, Inv i e ∧ RelS K B H1 F' F1 H2 σ1 e) ⟨env, F', h0, R1⟩ ?_ ?_ ?_
  · intro i σ1 H2 _ ⟨e, F1, _, R2⟩
    have kb := R2.e.bn.kn
    obtain ⟨_, R2⟩ := R2
    exact hG H2 (R2.gr.fk.trans R2.gr.kn) kb
  · intro i x σ1 H2 H3 hi ⟨e, F1, i1, R2⟩ y
    have k : ∀ a u, NT u → F' a = some u → F1 a = some u := let ⟨_, R2⟩ := R2; R2.gr.ff
    obtain ⟨F2, d, g2, e2, r2⟩ := hY i H2 x H3 hi y F1 R2.e.kn k
    obtain ⟨vs, rv, kg⟩ := hg i d e2 F2 H3 x g2.kn r2
    refine kg σ1 _ ?_
    refine hs i d e e2 i1 H1 F' F2 H3 _ ((R2.step g2).sets rv) _ fun o p => ?_
    cases o with
    | nx e' => exact fun F3 H4 σ3 R3 => ⟨e', F3, p, R3⟩
    | ct e' => exact fun F3 H4 σ3 R3 => ⟨e', F3, p, R3⟩
    | bk e' => exact fun F3 H4 σ3 R3 => q _ (show P (.nx e') from p) F3 H4 σ3 (R3.leave g1 bn)
    | rt r e' => cases r <;> exact (q _ p).leave g1 bn
    | ex C e' => exact (q (.ex C e') p).leave g1 bn
  · intro σ1 H2 ⟨e, F1, i1, R2⟩
    exact q _ (hd e i1) F1 H2 σ1 (R2.leave g1 bn)
theorem forO_lp {step : α → σ → Pg σ ρ} {x : α} {xs : List α} {s : σ} {o : Oc σ ρ} {I : Env → Prop} (h : forO step (x :: xs) s = some o) (hb : Sq K B W t env ek er (step x s))
    (hi : ∀ s', forO step xs s' = some o → I (ek s')) : Sx K B W t env (lp I (oIs K ek er o)) := by
  unfold forO at h
  cases q : step x s with
  | none => rw [q] at h; cases h
  | some w =>
    rw [q] at h
    refine sx_weak (hb w q) fun y z => ?_
    cases w with
    | nx s' => obtain rfl := z; exact hi s' h
    | ct s' => obtain rfl := z; exact hi s' h
    | bk s' => cases h; obtain rfl := z; exact rfl
    | rt r => cases h; obtain ⟨e2, rfl, w⟩ := z; exact ⟨e2, rfl, w⟩
    | ex c => cases h; obtain ⟨e2, rfl, w⟩ := z; exact ⟨e2, rfl, w⟩
theorem so_for {xs : List α} (enc : α → D) (ts : α → List D) {js : List Nat} {wi : TI} {step : α → σ → Pg σ ρ} {s0 : σ} (hi : EvW K B wi env (xs.map enc)) (hg : ∀ x, x ∈ xs → EvG K g js (enc x) (ts x))
    (hb : ∀ x, x ∈ xs → ∀ s, Sq K B W t (setD (ek s) js (ts x)) ek er (step x s)) (he : env = ek s0) : Sq K B W (tFor wi g t) env ek er (forO step xs s0) := fun o e => by
  subst he
  refine sx_forI (js := js) (ds := xs.map enc) (fun i => match xs[i]? with | some x => ts x | none => []) hi (fun i d hd => ?_) (fun i e => ∃ s, e = ek s ∧ forO step (xs.drop i) s = some o) ⟨s0, rfl, e⟩ (fun i d e' hd he => ?_) fun e' he => ?_
  · rw [List.getElem?_map] at hd
    obtain ⟨x, hx, rfl⟩ := Option.map_eq_some_iff.mp hd
    rw [hx]
    exact hg x (List.mem_of_getElem? hx)
  · rw [List.getElem?_map] at hd
    obtain ⟨x, hx, rfl⟩ := Option.map_eq_some_iff.mp hd
    obtain ⟨s, rfl, hs⟩ := he
    obtain ⟨hi, hx'⟩ := List.getElem?_eq_some_iff.mp hx
    rw [List.drop_eq_getElem_cons hi, hx'] at hs
    rw [hx]
    exact forO_lp hs (hb x (List.mem_of_getElem? hx) s) fun s' h => ⟨s', rfl, h⟩
  · obtain ⟨s, rfl, hs⟩ := he
    rw [List.length_map, List.drop_length] at hs
    cases hs
    exact rfl
/-- for k in d -/
theorem so_forK {kvs : List (Str × D)} (ts : Str → List D) {js : List Nat} {td : TE} {tb : WX → TS} {step : Str → σ → Pg σ ρ} {s0 : σ} (hd : EvD K B td env kvs) (hg : ∀ x : Str, EvG K g js (.str x) (ts x))
    (hb : ∀ W x, x ∈ kvs.map (·.1) → ∀ s, Sq K B W (tb W) (setD (ek s) js (ts x)) ek er (step x s)) (he : env = ek s0) : Sq K B W (tLkX W fun W => tFor (iKeys td) g (tb W)) env ek er (forO step (kvs.map (·.1)) s0) := fun o e => by
  subst he
  refine sx_forK (js := js) (kvs := kvs) ts hd (fun x _ => hg x) (fun i e => ∃ s, e = ek s ∧ forO step ((kvs.map (·.1)).drop i) s = some o) ⟨s0, rfl, e⟩ (fun W i x e' hx he => ?_) fun e' he => ?_
  · obtain ⟨s, rfl, hs⟩ := he
    obtain ⟨hi, hx'⟩ := List.getElem?_eq_some_iff.mp hx
    rw [List.drop_eq_getElem_cons hi, hx'] at hs
    exact forO_lp hs (hb W x (List.mem_of_getElem? hx) s) fun s' h => ⟨s', rfl, h⟩
  · obtain ⟨s, rfl, hs⟩ := he
    have z : kvs.length = (kvs.map (·.1)).length := by rw [List.length_map]
    rw [z, List.drop_length] at hs
    cases hs
    exact rfl
theorem so_while {p : σ → Prop} {cd : σ → Bool} {body : σ → Pg σ ρ} {s0 : σ} (hc : ∀ s, p s → EvT K B c (ek s) (cd s)) (hb : ∀ s, p s → cd s = true → Sq K B W t (ek s) ek er (body s)) (he : env = ek s0) : Sq K B W (tWhile c t) env ek er (whileO p cd body s0) := fun o e => by
  subst he
  obtain ⟨n, hn⟩ := whileO_some e
  refine sx_while (fun m e => ∃ s, e = ek s ∧ itO p cd body m s (some o)) ⟨n, s0, rfl, hn⟩ fun m e' he => ?_
  obtain ⟨s, rfl, hs⟩ := he
  cases m with
  | zero => exact hs.elim
  | succ m =>
    unfold itO at hs
    obtain ⟨hp, hs⟩ := hs
    refine ⟨cd s, hc s hp, fun hcs => ?_, fun hcs => ?_⟩
    · rcases hs with ⟨z, _⟩ | ⟨_, hs⟩
      · rw [hcs] at z; cases z
      · cases q : body s with
        | none => rw [q] at hs; exact hs.elim
        | some w =>
          rw [q] at hs
          refine sx_weak (hb s hp hcs w q) fun y z => ?_
          cases w with
          | nx s' => obtain rfl := z; exact ⟨m, Nat.lt_succ_self m, s', rfl, hs⟩
          | ct s' => obtain rfl := z; exact ⟨m, Nat.lt_succ_self m, s', rfl, hs⟩
          | bk s' => cases hs; obtain rfl := z; exact rfl
          | rt r => cases hs; obtain ⟨e2, rfl, w⟩ := z; exact ⟨e2, rfl, w⟩
          | ex c => cases hs; obtain ⟨e2, rfl, w⟩ := z; exact ⟨e2, rfl, w⟩
    · rcases hs with ⟨_, z⟩ | ⟨z, _⟩
      · cases z; exact rfl
      · rw [hcs] at z; cases z
/-! ### things of one's own, written -/
theorem so_append {f : α → D} {xs : List α} {a : α} {k : List α → Pg σ ρ} (i : Nat) (hi : env[i]? = some (.ow (oM (eL f xs)))) (he : Ev K B te env (.im (f a))) (hl : xs.length < sizeLine) (h : ∀ ys, Sq K B W u (env.set i (.ow (oM (eL f ys)))) ek er (k ys)) :
    Sq K B W (tSeq (tDrop (tBM K "list" rAppend (tVar i) (tCons te tNil))) u) env ek er (lt (xs ++ [a]) k) := fun o e =>
  sx_seq (sx_append hi he (by rw [List.length_map]; exact hl) (by have z := h (xs ++ [a]) o e; rw [eL_snoc] at z; exact z))
theorem so_extend {f : α → D} {xs ys : List α} {k : List α → Pg σ ρ} (i : Nat) (hi : env[i]? = some (.ow (oM (eL f xs)))) (he : Ev K B te env (.ob (eL f ys))) (hl : xs.length + ys.length ≤ sizeLine) (h : ∀ zs, Sq K B W u (env.set i (.ow (oM (eL f zs)))) ek er (k zs)) :
    Sq K B W (tSeq (tDrop (tBM K "list" rExtend (tVar i) (tCons te tNil))) u) env ek er (lt (xs ++ ys) k) := fun o e =>
  sx_seq (sx_extend hi he (by rw [List.length_map, List.length_map]; exact hl) (by have z := h (xs ++ ys) o e; rw [eL_app] at z; exact z))
theorem so_dput {f : α → D} {kvs : List (Str × α)} {s : Str} {a : α} {k : List (Str × α) → Pg σ ρ} (i : Nat) (hi : env[i]? = some (.ow (oM (eD f kvs)))) (he : Ev K B te env (.im (f a))) (hy : Ev K B ty env (.im (.str s))) (hl : kvs.length < sizeLine) (h : ∀ zs, Sq K B W u (env.set i (.ow (oM (eD f zs)))) ek er (k zs)) :
    Sq K B W (tSeq (sDPut (tVar i) ty te) u) env ek er (lt (kput kvs s a) k) := fun o e =>
  sx_seq (sx_dput hi he hy (by rw [List.length_map]; exact hl) (by have z := h (kput kvs s a) o e; rw [eD_put] at z; exact z))
/-- x = y.pop() -/
theorem so_pop {f : α → D} {xs : List α} [Inhabited α] {k : List α → α → Pg σ ρ} (i j : Nat) (hi : env[i]? = some (.ow (oM (eL f xs)))) (hn : xs ≠ []) (h : ∀ ys y, Sq K B W u ((env.set i (.ow (oM (eL f ys)))).set j (.im (f y))) ek er (k ys y)) :
    Sq K B W (tSeq (tAsg (tBM0 K "list" rPop (tVar i)) (gName j)) u) env ek er (lt2 (xs.dropLast, xs.getLastD default) k) := fun o e => by
  have ex : xs = xs.dropLast ++ [xs.getLastD default] := by
    cases xs with
    | nil => exact absurd rfl hn
    | cons a r =>
      rw [List.getLastD_cons]
      have q := List.dropLast_concat_getLast (l := a :: r) (by simp)
      rw [List.getLast_eq_getLastD] at q
      exact q.symm
  have hi' : env[i]? = some (.ow (oM (.lst (xs.dropLast.map f ++ [f (xs.getLastD default)])))) := by
    rw [hi]
    show some (Sl.ow (oM (.lst (xs.map f)))) = _
    conv => lhs; rw [ex]
    rw [List.map_append]
    rfl
  exact sx_seq (sx_asgS (es_pop hi') (h _ _ o e))
/-- x = y.pop(k) -/
theorem so_popAt {f : α → D} {xs : List α} [Inhabited α] {n : Int} {k : List α → α → Pg σ ρ} (i j : Nat) (hi : env[i]? = some (.ow (oM (eL f xs)))) (he : Ev K B te env (.im (.int n))) (hn : 0 ≤ n ∧ n < xs.length ∧ xs.length ≤ sizeLine) (h : ∀ ys y, Sq K B W u ((env.set i (.ow (oM (eL f ys)))).set j (.im (f y))) ek er (k ys y)) :
    Sq K B W (tSeq (tAsg (tBM K "list" rPopAt (tVar i) (tCons te tNil)) (gName j)) u) env ek er (lt2 (xs.eraseIdx n.toNat, xs.getD n.toNat default) k) := fun o e => by
  obtain ⟨h0, h1, h2⟩ := hn
  have hs : (2 : Int) ^ 63 > sizeLine := by decide
  have hlt : n.toNat < xs.length := by omega
  have z := h (xs.eraseIdx n.toNat) (xs.getD n.toNat default) o e
  refine sx_seq (sx_asgS (es_popAt (m := n.toNat) (d := f (xs.getD n.toNat default)) hi he (by omega) (by omega) ?_ ?_) ?_)
  · rw [List.length_map]
    unfold seqIndex?
    first
    | (rw [if_neg (by omega), if_pos (by omega)]; done)
    | (simp; omega)
  · rw [List.getElem?_map, List.getElem?_eq_getElem hlt, List.getD_eq_getElem?_getD, List.getElem?_eq_getElem hlt]
    rfl
  · show Sx K B W u ((env.set i (.ow (oM (.lst ((xs.map f).eraseIdx n.toNat))))).set j _) _
    rw [eL_erase] at z
    exact z
/-- x = d.pop(k) -/
theorem so_dpop {f : α → D} {kvs : List (Str × α)} [Inhabited α] {s : Str} {k : List (Str × α) → α → Pg σ ρ} (i j : Nat) (hi : env[i]? = some (.ow (oM (eD f kvs)))) (hy : Ev K B ty env (.im (.str s))) (hn : (kget kvs s).isSome = true) (h : ∀ ys y, Sq K B W u ((env.set i (.ow (oM (eD f ys)))).set j (.im (f y))) ek er (k ys y)) :
    Sq K B W (tSeq (tAsg (tDPop1 (tVar i) ty) (gName j)) u) env ek er (lt2 (kdrop kvs s, (kget kvs s).getD default) k) := fun o e => by
  obtain ⟨a, ha⟩ := Option.isSome_iff_exists.mp hn
  have z := h (kdrop kvs s) a o (by rw [ha] at e; exact e)
  refine sx_seq (sx_asgS (es_dpop (d := f a) hi hy (by rw [kget_emap, ha]; rfl)) ?_)
  rw [eD_drop] at z
  exact z
theorem so_dpopX {f : α → D} {kvs : List (Str × α)} {s : Str} {k : List (Str × α) → Pg σ ρ} (i : Nat) (hi : env[i]? = some (.ow (oM (eD f kvs)))) (hy : Ev K B ty env (.im (.str s))) (hn : (kget kvs s).isSome = true) (h : ∀ ys, Sq K B W u (env.set i (.ow (oM (eD f ys)))) ek er (k ys)) :
    Sq K B W (tSeq (tDrop (tDPop1 (tVar i) ty)) u) env ek er (lt (kdrop kvs s) k) := fun o e => by
  obtain ⟨a, ha⟩ := Option.isSome_iff_exists.mp hn
  have z := h (kdrop kvs s) o e
  refine sx_seq (sx_dropS (es_dpop (d := f a) hi hy (by rw [kget_emap, ha]; rfl)) ?_)
  rw [eD_drop] at z
  exact z
/-! ### defs, calls -/
/-- what a def promises, by its plain function -/
inductive SF (F : α → Pg Unit ρ) (en : α → List Vl) (er : ρ → Vl) (K : PySem.W.Frag) : List Vl → Res → Prop
  | nx (a : α) (h : F a = some (.nx ())) : SF F en er K (en a) (.ok (.im .non))
  | rt (a : α) (r : ρ) (h : F a = some (.rt r)) : SF F en er K (en a) (.ok (er r))
  | ex (a : α) (c : Str) (h : F a = some (.ex c)) : SF F en er K (en a) (.ex (He.ga K c))
/-- the ends of a def that writes nothing -/
def reU (n : Nat) (er : ρ → Vl) : RE ρ := ⟨er, fun _ => List.replicate n .un, List.replicate n .un⟩
/-- a def's body -/
theorem so_def {F : α → Pg Unit ρ} {en : α → List Vl} {ef : ρ → Vl} {ek : Unit → Env} {e0 : List Vl → Env} {rs : List Vl} {res : Res} (n : Nat) (sp : SF F en ef K rs res) (hb : ∀ r, Back (ef r)) (h : ∀ a, Sq K B W t (e0 (en a)) ek (reU n ef) (F a)) : Sx K B W t (e0 rs) (endP res) := by
  cases sp with
  | nx a e =>
    refine sx_weak (h a _ e) fun o z => ?_
    obtain rfl := z
    exact rfl
  | rt a r e =>
    refine sx_weak (h a _ e) fun o z => ?_
    obtain ⟨e2, rfl, _⟩ := z
    exact ⟨rfl, hb r⟩
  | ex a c e =>
    refine sx_weak (h a _ e) fun o z => ?_
    obtain ⟨e2, rfl, _⟩ := z
    exact rfl
section
variable {ρ' : Type} {F : α → Pg Unit ρ'} {en : α → List Vl} {er' : ρ' → Vl} {n : Nat} {tt : TA}
theorem so_call {k : Pg σ ρ} (a : α) (h : EvA K B tt env (en a)) (f : ∀ r ∈ en a, Flat r) (hn : (en a).length = n) (w : Wk env er.xe) (hu : Sq K B W u env ek er k) : Sq K B W (tSeq (tDrop (tCallS (spX K (SF F en er' K) n) (WE W) tt)) u) env ek er (callN (F a) k) := fun o e => by
  cases q : F a with
  | none => rw [q] at e; cases e
  | some w' =>
    rw [q] at e
    cases w' with
    | nx s => exact sx_seq (sx_call h f (.nx a q) ⟨trivial, hu o e⟩ hn)
    | rt r =>
      by_cases hb : Back (er' r)
      · exact sx_seq (sx_call h f (.rt a r q) ⟨hb, hu o e⟩ hn)
      · refine sx_seq (fun H0 F0 F H σ R D q2 => h F H σ R.e _ fun vs F' H' g x => ?_)
        have R' := R.step g
        exact ⟨F', en a, .ok (er' r), by rw [x.length]; exact hn, g.kn, (R'.e.bn).tb, x.flat f, .rt a r q, fun v F2 H2 g2 _ => q2 (.nx env) (hu o e) F2 H2 σ (R'.step g2)⟩
    | ex c => cases e; exact sx_seq (sx_call h f (.ex a c q) (show oIs K ek er (.ex c) (.ex _ env) from ⟨env, rfl, w⟩) hn)
    | bk s => cases e
    | ct s => cases e
theorem so_asgCall {enr : ρ' → D} {k : ρ' → Pg σ ρ} (a : α) (her : ∀ r, er' r = .im (enr r)) (h : EvA K B tt env (en a)) (f : ∀ r ∈ en a, Flat r) (hn : (en a).length = n) (w : Wk env er.xe) (hu : ∀ r, Sq K B W u (env.set i (.im (enr r))) ek er (k r)) :
    Sq K B W (tSeq (tAsg (tCallS (spX K (SF F en er' K) n) (WE W) tt) (gName i)) u) env ek er (callO (F a) k) := fun o e => by
  cases q : F a with
  | none => rw [q] at e; cases e
  | some w' =>
    rw [q] at e
    cases w' with
    | nx s => cases e
    | rt r =>
      have s := SF.rt (er := er') (en := en) (K := K) a r q
      rw [her] at s
      exact sx_seq (sx_asgCall (res := .ok (.im (enr r))) h f s ⟨trivial, hu r o e⟩ hn)
    | ex c => cases e; exact sx_seq (sx_asgCall h f (.ex a c q) (show oIs K ek er (.ex c) (.ex _ env) from ⟨env, rfl, w⟩) hn)
    | bk s => cases e
    | ct s => cases e
theorem so_retCall (a : α) {k : ρ' → ρ} (her : ∀ r, er' r = er.er (k r)) (hb : ∀ r, Back (er' r)) (h : EvA K B tt env (en a)) (f : ∀ r ∈ en a, Flat r) (hn : (en a).length = n) (w : Wk env er.xe) (wr : ∀ r, Wk env (er.xr r)) :
    Sq K B W (tSeq (tRet (tCallS (spX K (SF F en er' K) n) (WE W) tt)) u) env ek er (callO (F a) fun r => some (.rt (k r))) := fun o e => by
  cases q : F a with
  | none => rw [q] at e; cases e
  | some w' =>
    rw [q] at e
    cases w' with
    | nx s => cases e
    | rt r => cases e; exact sx_seq (sx_retCall h f (.rt a r q) ⟨hb r, show oIs K ek er (.rt (k r)) _ from ⟨env, by rw [her], wr _⟩⟩ hn)
    | ex c => cases e; exact sx_seq (sx_retCall h f (.ex a c q) (show oIs K ek er (.ex c) (.ex _ env) from ⟨env, rfl, w⟩) hn)
    | bk s => cases e
    | ct s => cases e
/-- a call that comes back -/
theorem v_call {E : XK} {enr : ρ' → D} [Inhabited ρ'] (a : α) (c : IsRt (F a)) (her : ∀ r, er' r = .im (enr r)) (h : EvA K B tt env (en a)) (f : ∀ r ∈ en a, Flat r) (hn : (en a).length = n) : Ev K B (tCall (spX K (SF F en er' K) n) [] E tt) env (.im (enr (valO (F a)))) := by
  have s := SF.rt (er := er') (en := en) (K := K) a _ (valO_rt c)
  rw [her] at s
  exact ev_call h f s trivial hn
theorem v_callW {E : XK} {enr : ρ' → Ow} [Inhabited ρ'] (a : α) (c : IsRt (F a)) (her : ∀ r, er' r = .nw (enr r)) (h : EvA K B tt env (en a)) (f : ∀ r ∈ en a, Flat r) (hn : (en a).length = n) : Ev K B (tCall (spX K (SF F en er' K) n) [] E tt) env (.nw (enr (valO (F a)))) := by
  have s := SF.rt (er := er') (en := en) (K := K) a _ (valO_rt c)
  rw [her] at s
  exact ev_call h f s trivial hn
end
end
end NM
/-! Expressions upon typed data (v_..). -/
namespace NM
open PySem PySem.Spec PyProof.Rows L2
open PySem.W (DatumOrd Datum)
/-! ### plain functions -/
def irange (a b : Int) : List Int := (List.range (b - a).toNat).map fun i : Nat => a + i
def irange3 (a b c : Int) (n : Nat) : List Int := (List.range n).map fun i : Nat => a + i * c
def OkD (d : D) : Prop := ∃ n, n ≤ 60 ∧ Okd n d
section
variable {α β : Type}
theorem atI_map (f : α → β) (xs : List α) (i : Int) : L2.atI (xs.map f) i = (L2.atI xs i).map f := by
  unfold L2.atI
  rw [List.length_map]
  cases L2.ixN xs.length i with
  | none => rfl
  | some j => simp
theorem cutD_map (f : α → β) (xs : List α) (lo hi : Option Int) : cutD (xs.map f) lo hi = (cutD xs lo hi).map f := by
  unfold cutD
  rw [List.length_map, List.map_take, List.map_drop]
theorem emap_keys (f : α → β) (kvs : List (Str × α)) : (emap f kvs).map (·.1) = kvs.map (·.1) := by rw [List.map_map]; rfl
end
variable [Tbs]
section
variable {α β : Type}
theorem kmerge_emap (f : α → β) (ps : List (Str × α)) : kmerge (emap f ps) = emap f (kmerge ps) := by
  have key : ∀ (acc : List (Str × α)), (emap f ps).foldl (fun acc p => kput acc p.1 p.2) (emap f acc) = emap f (ps.foldl (fun acc p => kput acc p.1 p.2) acc) := by
    induction ps with
    | nil => intro acc; rfl
    | cons p r ih =>
      intro acc
      show List.foldl _ (kput (emap f acc) p.1 (f p.2)) (emap f r) = emap f (List.foldl _ (kput acc p.1 p.2) r)
      rw [kput_emap]
      exact ih _
  exact key []
end
section
variable {α β γ δ : Type} {K : PySem.W.Frag} {B : Hp} {env : Env} {te ta tb tc td ty tx ti : TE} {tt : TA} {f : α → D} {g : β → D} {xs ys : List α} {kvs : List (Str × α)} {a : α} {s : Str}
/-! ### len, sum, .. -/
theorem v_len (h : Ev K B te env (.ob (eL f xs))) : Ev K B (tCB (rLenC K) (tCons te tNil)) env (.im (.int xs.length)) := by
  have z := ev_lenL (ea_cons h ea_nil)
  rw [List.length_map] at z
  exact z
theorem v_lenR (h : Ev K B te env (.im (eR f xs))) : Ev K B (tCB (rLenC K) (tCons te tNil)) env (.im (.int xs.length)) := by
  have z := ev_lenT (ea_cons h ea_nil)
  rw [List.length_map] at z
  exact z
theorem v_lenS (hl : s.length ≤ sizeLine) (h : Ev K B te env (.im (.str s))) : Ev K B (tCB (rLenC K) (tCons te tNil)) env (.im (.int s.length)) := ev_lenS (ea_cons h ea_nil) hl
theorem v_lenD (h : Ev K B te env (.ob (eD f kvs))) : Ev K B (tCB rLenD (tCons te tNil)) env (.im (.int kvs.length)) := by
  have z := ev_lenD (ea_cons h ea_nil)
  rw [List.length_map] at z
  exact z
theorem v_sum {ns : List Int} (h : Ev K B te env (.ob (eL eI ns))) : Ev K B (tCB (rSum K) (tCons te tNil)) env (.im (.int ns.sum)) := ev_sum (ea_cons h ea_nil)
theorem v_all {bs : List Bool} (h : Ev K B te env (.ob (eL eB bs))) : Ev K B (tCB (rAll K) (tCons te tNil)) env (.im (.bl (bs.all id))) := ev_all (ea_cons h ea_nil)
theorem v_abs {i : Int} (h : Ev K B te env (.im (.int i))) : Ev K B (tCB rAbs (tCons te tNil)) env (.im (.int (if i < 0 then -i else i))) := ev_abs (ea_cons h ea_nil)
theorem v_max2 {i j : Int} (h : Ev K B ta env (.im (.int i))) (h2 : Ev K B tb env (.im (.int j))) : Ev K B (tCB rMax2 (tCons ta (tCons tb tNil))) env (.im (.int (max i j))) := ev_max2 (ea_cons h (ea_cons h2 ea_nil))
theorem v_min2 {i j : Int} (h : Ev K B ta env (.im (.int i))) (h2 : Ev K B tb env (.im (.int j))) : Ev K B (tCB rMin2 (tCons ta (tCons tb tNil))) env (.im (.int (min i j))) := ev_min2 (ea_cons h (ea_cons h2 ea_nil))
theorem v_intB {b : Bool} (h : Ev K B te env (.im (.bl b))) : Ev K B (tCB rInt1 (tCons te tNil)) env (.im (.int (if b then 1 else 0))) := ev_intB (ea_cons h ea_nil)
theorem v_listL (h : Ev K B te env (.ob (eL f xs))) : Ev K B (tCB (rListC K) (tCons te tNil)) env (.nw (oM (eL f xs))) := ev_listL (ea_cons h ea_nil)
theorem v_listR (h : Ev K B te env (.im (eR f xs))) : Ev K B (tCB (rListC K) (tCons te tNil)) env (.nw (oM (eL f xs))) := ev_listT (ea_cons h ea_nil)
theorem v_listD (h : Ev K B te env (.ob (eD f kvs))) : Ev K B (tCB rListK (tCons te tNil)) env (.nw (oM (eL eS (kvs.map (·.1))))) := by
  have z := ev_listD (ea_cons h ea_nil)
  rw [emap_keys] at z
  exact z
theorem v_tupL (h : Ev K B te env (.ob (eL f xs))) : Ev K B (tCB (rTupC K) (tCons te tNil)) env (.im (eR f xs)) := ev_tupleL (ea_cons h ea_nil)
theorem v_sortedD (hl : kvs.length < 64) (h : Ev K B te env (.ob (eD f kvs))) : Ev K B (tCB rSortDK (tCons te tNil)) env (.nw (oM (eL eS (sortO (kvs.map (·.1)))))) := by
  have z := ev_sortedD (ea_cons h ea_nil) (by rw [List.length_map]; exact hl)
  rw [emap_keys] at z
  exact z
theorem v_dictP {ps : List (Str × α)} (h : Ev K B te env (.ob (eL (eP eS f) ps))) : Ev K B (tCB (rDictP K) (tCons te tNil)) env (.nw (oM (eD f (kmerge ps)))) := by
  have z := ev_dictP (ps := emap f ps) (K := K) (B := B) (env := env) (t := tCons te tNil) (ea_cons (by
    have e : (emap f ps).map (fun p => D.tup [.str p.1, p.2]) = ps.map (eP eS f) := by rw [List.map_map]; rfl
    rw [e]
    exact h) ea_nil)
  rw [kmerge_emap] at z
  exact z
section
variable {γ' : Type} [DecidableEq γ'] [DatumOrd γ']
/-- sorted, by a type that the library orders -/
theorem v_sortedV {enc : γ' → D} {zs : List γ'} {n : Nat} (hp : ∀ x : γ', py (enc x) = Datum.toD x) (ho : ∀ x ∈ zs, Okd n (enc x)) (hn : n ≤ 60) (hk : (∀ x ∈ zs, ∃ d r, Datum.toD x = .tuple (d :: r)) ∨ ∀ x ∈ zs, ∀ ds, Datum.toD x ≠ .tuple ds)
    (h : Ev K B te env (.ob (eL enc zs))) : Ev K B (tCB (rSortG K) (tCons te tNil)) env (.nw (oM (eL enc (sortO zs)))) := ev_sorted hp ho hn hk (ea_cons h ea_nil)
end
theorem v_sortedS {zs : List Str} (ho : ∀ x ∈ zs, PyData.strOk x = true) (h : Ev K B te env (.ob (eL eS zs))) : Ev K B (tCB (rSortG K) (tCons te tNil)) env (.nw (oM (eL eS (sortO zs)))) :=
  v_sortedV (n := 0) (fun x => rfl) (fun x hx => ho x hx) (by decide) (.inr fun x _ ds z => by cases z) h
theorem v_sortedI {zs : List Int} (h : Ev K B te env (.ob (eL eI zs))) : Ev K B (tCB (rSortG K) (tCons te tNil)) env (.nw (oM (eL eI (sortO zs)))) :=
  v_sortedV (n := 0) (fun x => rfl) (fun x hx => trivial) (by decide) (.inr fun x _ ds z => by cases z) h
/-- the least of names -/
def minS : List Str → Str
  | [] => default
  | x :: xs => PySem.W.minOf x xs
theorem v_minS {zs : List Str} (c : zs ≠ [] ∧ ∀ x ∈ zs, PyData.strOk x = true) (h : Ev K B te env (.ob (eL eS zs))) : Ev K B (tCB (rMinG K) (tCons te tNil)) env (.im (.str (minS zs))) := by
  cases zs with
  | nil => exact absurd rfl c.1
  | cons x xs => exact ev_min (enc := eS) (n := 0) (fun _ => rfl) (fun z hz => c.2 z hz) (by decide) (ea_cons h ea_nil)
theorem pyL_map (h : α → PyData) (hf : ∀ a, py (f a) = h a) : ∀ xs : List α, pyL (xs.map f) = xs.map h
  | [] => rfl
  | a :: r => by
    show py (f a) :: pyL (r.map f) = h a :: r.map h
    rw [hf, pyL_map h hf r]
theorem v_sortedVia {β' : Type} [DecidableEq β'] [DatumOrd β'] (to : α → β') (fr : β' → α) (hinv : ∀ a, fr (to a) = a) (hpy : ∀ b, py (f (fr b)) = Datum.toD b) (hk : (∀ x ∈ xs.map to, ∃ d r, Datum.toD x = .tuple (d :: r)) ∨ ∀ x ∈ xs.map to, ∀ ds, Datum.toD x ≠ .tuple ds) (c : ∀ x ∈ xs, OkD (f x))
    (h : Ev K B te env (.ob (eL f xs))) : Ev K B (tCB (rSortG K) (tCons te tNil)) env (.nw (oM (eL f ((sortO (xs.map to)).map fr)))) := by
  have e1 : eL (fun b => f (fr b)) (xs.map to) = eL f xs := by
    show D.lst _ = D.lst _
    rw [List.map_map]
    congr 1
    refine List.map_congr_left fun a _ => ?_
    show f (fr (to a)) = f a
    rw [hinv]
  have e2 : eL (fun b => f (fr b)) (sortO (xs.map to)) = eL f ((sortO (xs.map to)).map fr) := by
    show D.lst _ = D.lst _
    rw [List.map_map]
    rfl
  rw [← e2]
  refine v_sortedV (n := 60) hpy (fun x hx => ?_) (by decide) hk (by rw [e1]; exact h)
  obtain ⟨a, ha, rfl⟩ := List.mem_map.mp hx
  obtain ⟨n, hn, o⟩ := c a ha
  show Okd 60 (f (fr (to a)))
  rw [hinv]
  exact okd_le hn o
/-- rows (tuples of names), sorted -/
def sortedR (xs : List (List Str)) : List (List Str) := (sortO (xs.map PySem.W.Tup.mk)).map PySem.W.Tup.items
theorem v_sortedR {rows : List (List Str)} (c : ∀ x ∈ rows, OkD (eR eS x) ∧ x ≠ []) (h : Ev K B te env (.ob (eL (eR eS) rows))) : Ev K B (tCB (rSortG K) (tCons te tNil)) env (.nw (oM (eL (eR eS) (sortedR rows)))) := by
  refine v_sortedVia PySem.W.Tup.mk PySem.W.Tup.items (fun _ => rfl) (fun b => ?_) (.inl fun x hx => ?_) (fun x hx => (c x hx).1) h
  · show PyData.tuple (pyL _) = PyData.tuple (b.items.map Datum.toD)
    rw [pyL_map Datum.toD fun _ => rfl]
  · obtain ⟨r, hr, rfl⟩ := List.mem_map.mp hx
    cases r with
    | nil => exact absurd rfl (c _ hr).2
    | cons a r => exact ⟨_, _, rfl⟩
/-! ### items -/
theorem v_ixL {i : Int} [Inhabited α] (c : (L2.atI xs i).isSome = true) (ha : Ev K B ta env (.ob (eL f xs))) (hb : Ev K B tb env (.im (.int i))) : Ev K B (tOp (rIxL K) ta tb) env (.im (f ((L2.atI xs i).getD default))) := by
  obtain ⟨a, e⟩ := Option.isSome_iff_exists.mp c
  rw [e]
  exact ev_ixL ha hb (by rw [atI_map, e]; rfl)
theorem v_ixR {i : Int} [Inhabited α] (c : (L2.atI xs i).isSome = true) (ha : Ev K B ta env (.im (eR f xs))) (hb : Ev K B tb env (.im (.int i))) : Ev K B (tOp (rIxT K) ta tb) env (.im (f ((L2.atI xs i).getD default))) := by
  obtain ⟨a, e⟩ := Option.isSome_iff_exists.mp c
  rw [e]
  exact ev_ixT ha hb (by rw [atI_map, e]; rfl)
theorem v_fst {p : α × β} (ha : Ev K B ta env (.im (eP f g p))) : Ev K B (tOp (rIxT K) ta (tC (.int 0))) env (.im (f p.1)) := ev_ixT ha ev_int rfl
theorem v_snd {p : α × β} (ha : Ev K B ta env (.im (eP f g p))) : Ev K B (tOp (rIxT K) ta (tC (.int 1))) env (.im (g p.2)) := ev_ixT ha ev_int rfl
def strAt (s : Str) (i : Int) : Str := sign ((L2.atI s.cps.toList i).getD 0)
theorem v_ixS {i : Int} (hl : s.length ≤ sizeLine) (c : (L2.atI s.cps.toList i).isSome = true) (ha : Ev K B ta env (.im (.str s))) (hb : Ev K B tb env (.im (.int i))) : Ev K B (tOp rIxS ta tb) env (.im (.str (strAt s i))) := by
  obtain ⟨a, e⟩ := Option.isSome_iff_exists.mp c
  unfold strAt
  rw [e]
  exact ev_ixS ha hb hl e
theorem v_dget [Inhabited α] (c : (kget kvs s).isSome = true) (hd : Ev K B td env (.ob (eD f kvs))) (hy : Ev K B ty env (.im (.str s))) : Ev K B (tDGet td ty) env (.im (f ((kget kvs s).getD default))) := by
  obtain ⟨a, e⟩ := Option.isSome_iff_exists.mp c
  rw [e]
  exact ev_dget hd hy (by rw [kget_emap, e]; rfl)
theorem v_din (hy : Ev K B ty env (.im (.str s))) (hd : Ev K B td env (.ob (eD f kvs))) : Ev K B (tDIn ty td) env (.im (.bl (kget kvs s).isSome)) := by
  have z := ev_din hy hd
  rw [kget_emap, Option.isSome_map] at z
  exact z
theorem v_dnin (hy : Ev K B ty env (.im (.str s))) (hd : Ev K B td env (.ob (eD f kvs))) : Ev K B (tDNotIn ty td) env (.im (.bl (!(kget kvs s).isSome))) := by
  have z := ev_dnin hy hd
  rw [kget_emap, Option.isSome_map] at z
  exact z
theorem v_dget2 (hd : Ev K B td env (.ob (eD f kvs))) (hy : Ev K B ty env (.im (.str s))) (hx : Ev K B tx env (.im (f a))) : Ev K B (tDGet2 td ty tx) env (.im (f ((kget kvs s).getD a))) := by
  have z := ev_dget2 hd hy hx
  rw [kget_emap] at z
  have e : ((kget kvs s).map f).getD (f a) = f ((kget kvs s).getD a) := by cases kget kvs s <;> rfl
  rw [e] at z
  exact z
theorem v_inL {n : Str} {ns : List Str} (ha : Ev K B ta env (.im (.str n))) (hb : Ev K B tb env (.ob (eL eS ns))) : Ev K B (tOp (rIn K false) ta tb) env (.im (.bl (decide (n ∈ ns)))) := ev_inL ha hb
theorem v_ninL {n : Str} {ns : List Str} (ha : Ev K B ta env (.im (.str n))) (hb : Ev K B tb env (.ob (eL eS ns))) : Ev K B (tOp (rIn K true) ta tb) env (.im (.bl (!decide (n ∈ ns)))) := ev_ninL ha hb
theorem v_inR {n : Str} {ns : List Str} (ha : Ev K B ta env (.im (.str n))) (hb : Ev K B tb env (.im (eR eS ns))) : Ev K B (tOp (rIn K false) ta tb) env (.im (.bl (decide (n ∈ ns)))) := ev_inT ha hb
theorem v_eqD {d e : D} (od : OkD d) (oe : OkD e) (ha : Ev K B ta env (.ob d)) (hb : Ev K B tb env (.ob e)) : Ev K B (tOp (rEqD K) ta tb) env (.im (.bl (deq d e))) := by
  obtain ⟨n, hn, od⟩ := od
  obtain ⟨m, hm, oe⟩ := oe
  exact ev_eqD ha hb od oe (by omega) (by omega)
theorem v_neD {d e : D} (od : OkD d) (oe : OkD e) (ha : Ev K B ta env (.ob d)) (hb : Ev K B tb env (.ob e)) : Ev K B (tOp (rNeD K) ta tb) env (.im (.bl (!deq d e))) := by
  obtain ⟨n, hn, od⟩ := od
  obtain ⟨m, hm, oe⟩ := oe
  exact ev_neD ha hb od oe (by omega) (by omega)
theorem v_neD0 (ha : Ev K B ta env (.ob (eD f kvs))) (hb : Ev K B tb env (.nw (oM (.dct [])))) : Ev K B (tOp rNeD0 ta tb) env (.im (.bl (!kvs.isEmpty))) := by
  have z := ev_neD0 ha hb
  rw [show (emap f kvs).isEmpty = kvs.isEmpty by cases kvs <;> rfl] at z
  exact z
/-! ### +, slices -/
theorem v_cat (hl : xs.length + ys.length ≤ sizeLine) (ha : Ev K B ta env (.ob (eL f xs))) (hb : Ev K B tb env (.ob (eL f ys))) : Ev K B (tOp rCat ta tb) env (.nw (oM (eL f (xs ++ ys)))) := by
  have z := ev_cat ha hb (by rw [List.length_map, List.length_map]; exact hl)
  rw [← List.map_append] at z
  exact z
theorem v_catR (hl : xs.length + ys.length ≤ sizeLine) (ha : Ev K B ta env (.im (eR f xs))) (hb : Ev K B tb env (.im (eR f ys))) : Ev K B (tOp (rCatA K) ta tb) env (.im (eR f (xs ++ ys))) := by
  have z := ev_catT ha hb (by rw [List.length_map, List.length_map]; exact hl)
  rw [← List.map_append] at z
  exact z
theorem v_rep {n : Int} (hl : -(2 ^ 63) ≤ n ∧ n < 2 ^ 63 ∧ xs.length * n.toNat ≤ sizeLine) (ha : Ev K B ta env (.ob (eL f xs))) (hb : Ev K B tb env (.im (.int n))) : Ev K B (tOp rRep ta tb) env (.nw (oM (eL f (List.replicate n.toNat xs).flatten))) := by
  have z := ev_rep ha hb hl.1 hl.2.1 (by rw [List.length_map]; exact hl.2.2)
  have e : (List.replicate n.toNat (xs.map f)).flatten = ((List.replicate n.toNat xs).flatten).map f := by rw [List.map_flatten, List.map_replicate]
  rw [e] at z
  exact z
theorem v_addS {i j : Str} (hl : i.length + j.length ≤ sizeLine) (ha : Ev K B ta env (.im (.str i))) (hb : Ev K B tb env (.im (.str j))) : Ev K B (tOp rAddSt ta tb) env (.im (.str (i ++ j))) := ev_addS ha hb hl
theorem v_slL {tl th : TO} {lo hi : Option Int} (h : Ev K B te env (.ob (eL f xs))) (hl : EvO K B tl env lo) (hh : EvO K B th env hi) : Ev K B (tSl (rSlL K) te tl th) env (.nw (oM (eL f (cutD xs lo hi)))) := by
  have z := ev_slL h hl hh
  rw [cutD_map] at z
  exact z
theorem v_slR {tl th : TO} {lo hi : Option Int} (h : Ev K B te env (.im (eR f xs))) (hl : EvO K B tl env lo) (hh : EvO K B th env hi) : Ev K B (tSl (rSlA K) te tl th) env (.im (eR f (cutD xs lo hi))) := by
  have z := ev_slT h hl hh
  rw [cutD_map] at z
  exact z
theorem v_revL (h : Ev K B te env (.ob (eL f xs))) : Ev K B (tRevL K te) env (.nw (oM (eL f xs.reverse))) := by
  have z := ev_revL h
  rw [← List.map_reverse] at z
  exact z
/-! ### displays -/
theorem v_pair {p : α × β} (ha : Ev K B ta env (.im (f p.1))) (hb : Ev K B tb env (.im (g p.2))) : Ev K B (tTup (tCons ta (tCons tb tNil))) env (.im (eP f g p)) := ev_tup (rs := [.im (f p.1), .im (g p.2)]) (ea_cons ha (ea_cons hb ea_nil))
theorem v_trip {h : γ → D} {p : α × β × γ} (ha : Ev K B ta env (.im (f p.1))) (hb : Ev K B tb env (.im (g p.2.1))) (hc : Ev K B tc env (.im (h p.2.2))) : Ev K B (tTup (tCons ta (tCons tb (tCons tc tNil)))) env (.im (e3 f g h p)) := ev_tup (rs := [.im (f p.1), .im (g p.2.1), .im (h p.2.2)]) (ea_cons ha (ea_cons hb (ea_cons hc ea_nil)))
theorem v_quad {h : γ → D} {i : δ → D} {p : α × β × γ × δ} (ha : Ev K B ta env (.im (f p.1))) (hb : Ev K B tb env (.im (g p.2.1))) (hc : Ev K B tc env (.im (h p.2.2.1))) (hd : Ev K B td env (.im (i p.2.2.2))) : Ev K B (tTup (tCons ta (tCons tb (tCons tc (tCons td tNil))))) env (.im (e4 f g h i p)) := ev_tup (rs := [.im (f p.1), .im (g p.2.1), .im (h p.2.2.1), .im (i p.2.2.2)]) (ea_cons ha (ea_cons hb (ea_cons hc (ea_cons hd ea_nil))))
theorem dsOf_map (xs : List α) : dsOf (xs.map fun a => Vl.im (f a)) = xs.map f := by
  induction xs with
  | nil => rfl
  | cons a r ih => show f a :: dsOf (r.map fun a => Vl.im (f a)) = _; rw [ih]; rfl
theorem v_row (hl : xs.length ≤ sizeLine) (h : EvA K B tt env (xs.map fun a => .im (f a))) : Ev K B (tTup tt) env (.im (eR f xs)) := by
  have z := ev_tup h (by rw [dsOf_map, List.map_map]; rfl) (by rw [dsOf_map, List.length_map]; exact hl)
  rw [dsOf_map] at z
  exact z
theorem v_disp {trs : List (TE × TE)} {ps : List (Str × α)} (h : EvPs K B trs env (emap f ps)) (hl : ps.length ≤ 15) : Ev K B (tDisp trs) env (.nw (oM (eD f (kmerge ps)))) := by
  have z := ev_disp h (by rw [List.length_map]; exact hl)
  rw [kmerge_emap] at z
  exact z
theorem v_lst (hl : xs.length ≤ sizeLine) (h : EvA K B tt env (xs.map fun a => .im (f a))) : Ev K B (tLst tt) env (.nw (oM (eL f xs))) := by
  have z := ev_lst h (by rw [dsOf_map, List.map_map]; rfl) (by rw [dsOf_map, List.length_map]; exact hl)
  rw [dsOf_map] at z
  exact z
/-! ### what is walked -/
theorem w_range1 {ta : TA} {j : Int} (hb : -(2 ^ 62) ≤ j ∧ j < 2 ^ 62) (h : EvA K B ta env [.im (.int j)]) : EvF K B (iRng1 ta) env ((irange 0 j).map eI) := by
  have z := ef_range1 (n := j.toNat) h hb.1 hb.2 rfl
  have e : (irange 0 j).map eI = (List.range j.toNat).map fun i : Nat => D.int i := by
    unfold irange
    rw [List.map_map, Int.sub_zero]
    refine List.map_congr_left fun i _ => ?_
    show D.int (0 + (i : Int)) = _
    rw [Int.zero_add]
  rw [e]
  exact z
theorem w_range2 {ta : TA} {i j : Int} (hb : -(2 ^ 62) ≤ i ∧ i < 2 ^ 62 ∧ -(2 ^ 62) ≤ j ∧ j < 2 ^ 62) (h : EvA K B ta env [.im (.int i), .im (.int j)]) : EvF K B (iRng2 ta) env ((irange i j).map eI) := by
  have z := ef_range2 (n := (j - i).toNat) h hb rfl
  have e : (irange i j).map eI = (List.range (j - i).toNat).map fun k : Nat => D.int (i + k) := by
    unfold irange
    rw [List.map_map]
    rfl
  rw [e]
  exact z
theorem w_range3 {ta : TA} {i j c : Int} (n : Nat) (hb : RgC i j c n) (h : EvA K B ta env [.im (.int i), .im (.int j), .im (.int c)]) : EvF K B (iRng3 ta) env ((irange3 i j c n).map eI) := by
  have z := ef_range3 (n := n) h hb
  have e : (irange3 i j c n).map eI = (List.range n).map fun k : Nat => D.int (i + (k : Nat) * c) := by
    unfold irange3
    rw [List.map_map]
    rfl
  rw [e]
  exact z
/-! ### comprehensions -/
theorem v_lc {wi : TI} {gg : TG} {tt : TT} {te : TE} {vs js : List Nat} (ts : α → List D) (p : α → Bool) (h : α → β) (hl : xs.length ≤ sizeLine) (hi : EvI K B wi env (xs.map f))
    (hg : ∀ x, x ∈ xs → EvG K gg js (f x) (ts x)) (hj : ∀ j ∈ js, j ∈ vs) (ht : ∀ x, x ∈ xs → EvT K B tt (setD (wipeE env vs) js (ts x)) (p x)) (he : ∀ x, x ∈ xs → p x = true → Ev K B te (setD (wipeE env vs) js (ts x)) (.im (g (h x)))) :
    Ev K B (tLc wi gg tt te vs) env (.nw (oM (eL g ((xs.filter p).map h)))) := by
  have z := ev_lc ts p (fun x => g (h x)) hi hg hj ht he hl
  rw [show (xs.filter p).map (fun x => g (h x)) = ((xs.filter p).map h).map g by rw [List.map_map]; rfl] at z
  exact z
theorem v_lcA {wi : TI} {gg : TG} {te : TE} {vs js : List Nat} (ts : α → List D) (h : α → β) (hl : xs.length ≤ sizeLine) (hi : EvI K B wi env (xs.map f))
    (hg : ∀ x, x ∈ xs → EvG K gg js (f x) (ts x)) (hj : ∀ j ∈ js, j ∈ vs) (he : ∀ x, x ∈ xs → Ev K B te (setD (wipeE env vs) js (ts x)) (.im (g (h x)))) :
    Ev K B (tLc wi gg tYes te vs) env (.nw (oM (eL g (xs.map h)))) := by
  have z := ev_lcA ts (fun x => g (h x)) hi hg hj he hl
  rw [show xs.map (fun x => g (h x)) = (xs.map h).map g by rw [List.map_map]; rfl] at z
  exact z
/-- over a dict's keys -/
theorem v_lcK {gg : TG} {tt : TT} {te : TE} {vs js : List Nat} {dvs : List (Str × D)} (ts : Str → List D) (p : Str → Bool) (h : Str → β) (hl : kvs.length ≤ sizeLine) (hd : EvD0 K B td env (emap f kvs))
    (hg : ∀ x, x ∈ kvs.map (·.1) → EvG K gg js (.str x) (ts x)) (hj : ∀ j ∈ js, j ∈ vs) (ht : ∀ x, x ∈ kvs.map (·.1) → EvT K B tt (setD (wipeE env vs) js (ts x)) (p x)) (he : ∀ x, x ∈ kvs.map (·.1) → p x = true → Ev K B te (setD (wipeE env vs) js (ts x)) (.im (g (h x)))) :
    Ev K B (tLkE (tLc (iKeys td) gg tt te vs)) env (.nw (oM (eL g (((kvs.map (·.1)).filter p).map h)))) := by
  have z := ev_lcK ts p (fun x => g (h x)) hd (by rw [emap_keys]; exact hg) hj (by rw [emap_keys]; exact ht) (by rw [emap_keys]; exact he) (by rw [List.length_map]; exact hl)
  rw [emap_keys, show ((kvs.map (·.1)).filter p).map (fun x => g (h x)) = (((kvs.map (·.1)).filter p).map h).map g by rw [List.map_map]; rfl] at z
  exact z
theorem v_lcKA {gg : TG} {te : TE} {vs js : List Nat} (ts : Str → List D) (h : Str → β) (hl : kvs.length ≤ sizeLine) (hd : EvD0 K B td env (emap f kvs))
    (hg : ∀ x, x ∈ kvs.map (·.1) → EvG K gg js (.str x) (ts x)) (hj : ∀ j ∈ js, j ∈ vs) (he : ∀ x, x ∈ kvs.map (·.1) → Ev K B te (setD (wipeE env vs) js (ts x)) (.im (g (h x)))) :
    Ev K B (tLkE (tLc (iKeys td) gg tYes te vs)) env (.nw (oM (eL g ((kvs.map (·.1)).map h)))) := by
  have z := v_lcK (f := f) (g := g) (dvs := []) ts (fun _ => true) h hl hd hg hj (fun x _ => et_yes) (fun x hx _ => he x hx)
  rw [List.filter_eq_self.mpr (fun _ _ => rfl)] at z
  exact z
theorem so_forKT {σ ρ : Type} {W : WX} {ek : σ → Env} {er : RE ρ} {gg : TG} {tb : WX → TS} (ts : Str → List D) {js : List Nat} {step : Str → σ → Pg σ ρ} {s0 : σ} (hd : EvD K B td env (emap f kvs)) (hg : ∀ x : Str, EvG K gg js (.str x) (ts x))
    (hb : ∀ W x, x ∈ kvs.map (·.1) → ∀ s, Sq K B W (tb W) (setD (ek s) js (ts x)) ek er (step x s)) (he : env = ek s0) : Sq K B W (tLkX W fun W => tFor (iKeys td) gg (tb W)) env ek er (forO step (kvs.map (·.1)) s0) := by
  have z := so_forK (W := W) (er := er) (step := step) ts hd hg (by rw [emap_keys]; exact hb) he
  rw [emap_keys] at z
  exact z
/-- row, fresh = [], [left.pop(0)] -/
theorem so_parNP {σ ρ : Type} {W : WX} {u : TS} {ek : σ → Env} {er : RE ρ} {i j : Nat} {ws : List α} [Inhabited α] {k : List β → List α → List α → Pg σ ρ} (l : Nat) (hi : env[l]? = some (.ow (oM (eL f ws)))) (c : 0 < ws.length ∧ ws.length ≤ sizeLine)
    (h : ∀ row fresh left, Sq K B W u (((env.set l (.ow (oM (eL f left)))).set i (.ow (oM (eL g row)))).set j (.ow (oM (eL f fresh)))) ek er (k row fresh left)) (hij : i ≠ j := by decide) :
    Sq K B W (tSeq (tPar i j (tCons (tLst tNil) (tCons (tLst (tCons (tBM K "list" rPopAt (tVar l) (tCons (tC (.int 0)) tNil)) tNil)) tNil))) u) env ek er (lt3 (([] : List β), [ws.getD 0 default], ws.eraseIdx 0) k) := fun o e => by
  obtain ⟨c1, c2⟩ := c
  have z := h [] [ws.getD 0 default] (ws.eraseIdx 0) o e
  rw [eL_erase] at z
  refine sx_seq (sx_parNP (ev_lst (rs := []) ea_nil) (es_popAt (m := 0) (d := f (ws.getD 0 default)) hi ev_int (by decide) (by decide) ?_ ?_) z hij)
  · rw [List.length_map]
    unfold seqIndex?
    have c3 : (0 : Int) < (ws.length : Int) := by omega
    simp [c1, c3]
  · rw [List.getElem?_map, List.getElem?_eq_getElem c1, List.getD_eq_getElem?_getD, List.getElem?_eq_getElem c1]
    rfl
/-! ### None or .. -/
theorem isNon_eO {o : Option α} (hf : ∀ a, isNon (f a) = false) : isNon (eO f o) = o.isNone := by
  cases o with
  | none => rfl
  | some a => exact hf a
theorem v_isN {o : Option α} (hf : ∀ a, isNon (f a) = false) (h : Ev K B te env (.im (eO f o))) : Ev K B (tOp rIsN te (tC .non)) env (.im (.bl o.isNone)) := by
  have z := ev_isN h
  rw [isNon_eO hf] at z
  exact z
theorem v_notN {o : Option α} (hf : ∀ a, isNon (f a) = false) (h : Ev K B te env (.im (eO f o))) : Ev K B (tOp rNotN te (tC .non)) env (.im (.bl (!o.isNone))) := by
  have z := ev_notN h
  rw [isNon_eO hf] at z
  exact z
theorem v_un {o : Option α} [Inhabited α] (c : o.isSome = true) (h : Ev K B te env (.im (eO f o))) : Ev K B te env (.im (f (o.getD default))) := by
  obtain ⟨a, rfl⟩ := Option.isSome_iff_exists.mp c
  exact h
theorem v_some {a : α} (h : Ev K B te env (.im (f a))) : Ev K B te env (.im (eO f (some a))) := h
theorem v_none (h : Ev K B te env (.im .non)) : Ev K B te env (.im (eO f (none : Option α))) := h
end
end NM
/-! What the common defs compute, and their promises. -/
namespace NM
open PySem PySem.Spec PyProof.Rows L2
variable [Tbs]
def isCount (d : D) (lo hi : Int) : Bool := match d with
  | .int i => decide (lo ≤ i) && decide (i ≤ hi)
  | _ => false
inductive S_is_count : List Vl → Res → Prop
  | mk (d : D) (lo hi : Int) : S_is_count [.im d, .im (.int lo), .im (.int hi)] (.ok (.im (.bl (isCount d lo hi))))
def small : Str := "abcdefghijklmnopqrstuvwxyz"
def isNameS (s : Str) : Bool := decide (1 ≤ (s.length : Int)) && decide ((s.length : Int) ≤ 6) && (s.cps.toList.map fun c => decide (c ∈ small.cps.toList)).all id
def isName (d : D) : Bool := match d with
  | .str s => isNameS s
  | _ => false
/-- texts within the line -/
def Short (d : D) : Prop := ∀ s, d = .str s → s.length ≤ sizeLine
inductive S_is_name : List Vl → Res → Prop
  | mk (d : D) (h : Short d) : S_is_name [.im d] (.ok (.im (.bl (isName d))))
inductive S_need (C : Addr) (p : D → Bool) : List Vl → Res → Prop
  | ok (d : D) (h : Short d) (e : p d = true) : S_need C p [.im d] (.ok (.im .non))
  | ex (d : D) (h : Short d) (e : p d = false) : S_need C p [.im d] (.ex C)
def isSize (d : D) : Bool := isCount d 0 13
def isPoint (d : D) : Bool := match d with
  | .tup [a, b] => isCount a 0 4095 && isCount b 0 4095
  | _ => false
def reaches : List Int := [0, 1, 2, 4, 8, 16, 32, 64, 128, 256, 512, 1024, 2048, 4096]
def reachN (k : Nat) : Int := reaches.getD k 0
inductive S_reach : List Vl → Res → Prop
  | mk (k : Nat) (h : k < 14) : S_reach [.im (.int k)] (.ok (.im (.int (reachN k))))
def ptD (a b : Int) : D := .tup [.int a, .int b]
def iabs (i : Int) : Int := if i < 0 then -i else i
def cheb (a b c d : Int) : Int := max (iabs (a - c)) (iabs (b - d))
inductive S_apart : List Vl → Res → Prop
  | mk (a b c d : Int) : S_apart [.im (ptD a b), .im (ptD c d)] (.ok (.im (.int (cheb a b c d))))
theorem short_pt (a b : Int) : Short (ptD a b) := fun s z => by cases z
theorem flat1 {d : D} : ∀ r ∈ [Vl.im d], Flat r := fun r hr => by simp at hr; subst hr; trivial
theorem flat2 {d e : D} : ∀ r ∈ [Vl.im d, Vl.im e], Flat r := fun r hr => by simp at hr; rcases hr with rfl | rfl <;> trivial
theorem flat3 {d e g : D} : ∀ r ∈ [Vl.im d, Vl.im e, Vl.im g], Flat r := fun r hr => by simp at hr; rcases hr with rfl | rfl | rfl <;> trivial
theorem cheb_le {a b c d : Int} (h1 : isPoint (ptD a b) = true) (h2 : isPoint (ptD c d) = true) : cheb a b c d ≤ 4095 := by
  have k1 : isCount (.int a) 0 4095 = true ∧ isCount (.int b) 0 4095 = true := by
    have z : (isCount (.int a) 0 4095 && isCount (.int b) 0 4095) = true := h1
    rwa [Bool.and_eq_true] at z
  have k2 : isCount (.int c) 0 4095 = true ∧ isCount (.int d) 0 4095 = true := by
    have z : (isCount (.int c) 0 4095 && isCount (.int d) 0 4095) = true := h2
    rwa [Bool.and_eq_true] at z
  obtain ⟨x1, x2⟩ := k1
  obtain ⟨x3, x4⟩ := k2
  simp only [isCount, Bool.and_eq_true, decide_eq_true_eq] at x1 x2 x3 x4
  unfold cheb iabs
  split <;> split <;> omega
def cellV (ns : List Int) (k : Nat) : Int := if ns = [] then (k : Int) * 7919 else ns.getD (k % ns.length) 0 + (k : Int) / (ns.length : Int) * 104729
inductive S_cell : List Vl → Res → Prop
  | mk (ns : List Int) (k : Nat) (hn : ns.length ≤ 63) (hk : k ≤ 63) : S_cell [.lo (oS ns), .im (.int k)] (.ok (.im (.int (cellV ns k))))
def p1 : Int := 340282366920938463463374607431768211507
def p2 : Int := 340282366920938463463374607431768211297
def q1 : Int := 18446744073709551557
def dr1 (c : Int) (k : Nat) : Int := (c * 6364136223846793005 + ((k : Int) + 1) * 1442695040888963407) % p1
def dr2 (c : Int) (k : Nat) : Int := dr1 c k * dr1 c k % p2
def drawnV (c : Int) (k : Nat) : Int := ((dr2 c k % q1 + 1) * (dr2 c k / q1 + 1) * dr2 c k) % p1
theorem drawn_ge (c : Int) (k : Nat) : 0 ≤ drawnV c k := Int.emod_nonneg _ (by decide)
inductive S_drawn : List Vl → Res → Prop
  | mk (c : Int) (k : Nat) (hk : k ≤ 1000) : S_drawn [.im (.int c), .im (.int k)] (.ok (.im (.int (drawnV c k))))
def byL : List Int := [1, 3, 10, 100]
def byV (h : Int) : Int := byL.getD (h / 2 ^ 24 % 4).toNat 0
def ptX (m : Int) : Int := if m % 4 = 0 then m / 8 % 4096 else m / 8 % 12 * byV (m / 8)
def ptY (m : Int) : Int := if m % 4 = 0 then m / 8 / 4096 % 4096 else m / 8 / 16 % 12 * byV (m / 8)
theorem byV_le (h : Int) : 1 ≤ byV h ∧ byV h ≤ 100 := by
  have x1 : 0 ≤ h / 2 ^ 24 % 4 := Int.emod_nonneg _ (by decide)
  have x2 : h / 2 ^ 24 % 4 < 4 := Int.emod_lt_of_pos _ (by decide)
  have e : (h / 2 ^ 24 % 4).toNat < 4 := by omega
  unfold byV
  have key : ∀ n, n < 4 → 1 ≤ byL.getD n 0 ∧ byL.getD n 0 ≤ 100 := by decide
  exact key _ e
theorem ptX_le (m : Int) : 0 ≤ ptX m ∧ ptX m ≤ 4095 := by
  unfold ptX
  obtain ⟨b1, b2⟩ := byV_le (m / 8)
  have x1 : 0 ≤ m / 8 % 12 := Int.emod_nonneg _ (by decide)
  have x2 : m / 8 % 12 < 12 := Int.emod_lt_of_pos _ (by decide)
  split
  · omega
  · constructor
    · exact Int.mul_nonneg x1 (by omega)
    · have := Int.mul_le_mul (show m / 8 % 12 ≤ 11 by omega) b2 (by omega) (by omega)
      omega
theorem ptY_le (m : Int) : 0 ≤ ptY m ∧ ptY m ≤ 4095 := by
  unfold ptY
  obtain ⟨b1, b2⟩ := byV_le (m / 8)
  have x1 : 0 ≤ m / 8 / 16 % 12 := Int.emod_nonneg _ (by decide)
  have x2 : m / 8 / 16 % 12 < 12 := Int.emod_lt_of_pos _ (by decide)
  split
  · omega
  · constructor
    · exact Int.mul_nonneg x1 (by omega)
    · have := Int.mul_le_mul (show m / 8 / 16 % 12 ≤ 11 by omega) b2 (by omega) (by omega)
      omega
theorem isPoint_of {a b : Int} (h1 : 0 ≤ a ∧ a ≤ 4095) (h2 : 0 ≤ b ∧ b ≤ 4095) : isPoint (ptD a b) = true := by
  show (isCount (.int a) 0 4095 && isCount (.int b) 0 4095) = true
  simp [isCount, h1, h2]
inductive S_point : List Vl → Res → Prop
  | mk (m : Int) : S_point [.im (.int m)] (.ok (.im (ptD (ptX m) (ptY m))))
theorem sort2 (x y : Int) : (sortO [x, y])[1]? = some (max x y) := by
  have e : sortO [x, y] = if x ≤ y then [x, y] else [y, x] := by
    have h : leO x y = decide (x ≤ y) := by
      show (!decide (y < x)) = decide (x ≤ y)
      by_cases h : x ≤ y
      · rw [decide_eq_true h, decide_eq_false (by omega)]
        rfl
      · rw [decide_eq_false h, decide_eq_true (by omega)]
        rfl
    unfold sortO
    rw [show [x, y].mergeSort leO = if leO x y then [x, y] else [y, x] by simp [List.mergeSort, List.MergeSort.Internal.splitInTwo, List.merge], h]
    by_cases h : x ≤ y
    · simp [h]
    · simp [h]
  rw [e]
  by_cases h : x ≤ y
  · rw [if_pos h]
    show some y = some (max x y)
    rw [show max x y = y by omega]
  · rw [if_neg h]
    show some x = some (max x y)
    rw [show max x y = x by omega]
theorem int_toD (x : Int) : (PySem.W.Datum.toD x : PyData) = .int x := rfl
inductive S_lfar : List Vl → Res → Prop
  | mk (a b c d : Int) : S_lfar [.im (ptD a b), .im (ptD c d)] (.ok (.im (.int (cheb a b c d))))
inductive S_lnear : List Vl → Res → Prop
  | mk (a b c d : Int) (k : Nat) (h : k < 14) : S_lnear [.im (ptD a b), .im (ptD c d), .im (.int k)] (.ok (.im (.bl (decide (cheb a b c d ≤ reachN k)))))
def names5 : List Str := ["BadHeap", "BadName", "BadPoint", "BadSize", "BadText"]
def b2z (b : Bool) : Int := if b then 1 else 0
/-- what the word's body does with the flags -/
theorem flags_of (nm : Str) (h : nm ∈ names5) : ∃ j : Nat, names5[j]? = some nm ∧ (names5.map fun x => decide (nm = x))[j]? = some true ∧ (∀ m, m < j → (names5.map fun x => decide (nm = x))[m]? = some false) ∧ ((names5.map fun x => decide (nm = x)).map b2z).sum = 1 := by
  simp only [names5, List.mem_cons, List.not_mem_nil, or_false] at h
  rcases h with rfl | rfl | rfl | rfl | rfl
  · exact ⟨0, rfl, by decide, by decide, by decide⟩
  · exact ⟨1, rfl, by decide, by decide, by decide⟩
  · exact ⟨2, rfl, by decide, by decide, by decide⟩
  · exact ⟨3, rfl, by decide, by decide, by decide⟩
  · exact ⟨4, rfl, by decide, by decide, by decide⟩
def names7 : List Str := ["BadHeap", "BadName", "BadPoint", "BadSize", "BadText", "BadTag", "Nothing"]
theorem flags_of7 (nm : Str) (h : nm ∈ names7) : ∃ j : Nat, names7[j]? = some nm ∧ (names7.map fun x => decide (nm = x))[j]? = some true ∧ (∀ m, m < j → (names7.map fun x => decide (nm = x))[m]? = some false) ∧ ((names7.map fun x => decide (nm = x)).map b2z).sum = 1 := by
  simp only [names7, List.mem_cons, List.not_mem_nil, or_false] at h
  rcases h with rfl | rfl | rfl | rfl | rfl | rfl | rfl
  · exact ⟨0, rfl, by decide, by decide, by decide⟩
  · exact ⟨1, rfl, by decide, by decide, by decide⟩
  · exact ⟨2, rfl, by decide, by decide, by decide⟩
  · exact ⟨3, rfl, by decide, by decide, by decide⟩
  · exact ⟨4, rfl, by decide, by decide, by decide⟩
  · exact ⟨5, rfl, by decide, by decide, by decide⟩
  · exact ⟨6, rfl, by decide, by decide, by decide⟩
/-! ### upon typed data -/
def chebP (p q : Int × Int) : Int := cheb p.1 p.2 q.1 q.2
def reachI (i : Int) : Int := reachN i.toNat
def cellI (ns : List Int) (k : Int) : Int := cellV ns k.toNat
def drawnI (c : Int) (k : Int) : Int := drawnV c k.toNat
def ptXY (m : Int) : Int × Int := (ptX m, ptY m)
def nearP (p q : Int × Int) (k : Int) : Bool := decide (chebP p q ≤ reachI k)
def sLt (a b : Str) : Bool := decide (a.cps.toList < b.cps.toList)
section
variable {K : PySem.W.Frag} {B : Hp} {env : Env} {E : XK} {t : TA}
theorem v_reach {i : Int} (c : 0 ≤ i ∧ i < 14) (h : EvA K B t env [.im (.int i)]) : Ev K B (tCall (spX K S_reach 1) [] E t) env (.im (.int (reachI i))) := by
  obtain ⟨k, rfl⟩ := Int.eq_ofNat_of_zero_le c.1
  exact ev_call h flat1 (S_reach.mk k (by omega)) trivial
theorem v_cell {ns : List Int} {i : Int} (c : ns.length ≤ 63 ∧ 0 ≤ i ∧ i ≤ 63) (h : EvA K B t env [.lo (oS ns), .im (.int i)]) : Ev K B (tCall (spX K S_cell 2) [] E t) env (.im (.int (cellI ns i))) := by
  obtain ⟨k, rfl⟩ := Int.eq_ofNat_of_zero_le c.2.1
  exact ev_call h (fun r hr => by simp at hr; rcases hr with rfl | rfl <;> trivial) (S_cell.mk ns k c.1 (by omega)) trivial
theorem v_drawn {x i : Int} (c : 0 ≤ i ∧ i ≤ 1000) (h : EvA K B t env [.im (.int x), .im (.int i)]) : Ev K B (tCall (spX K S_drawn 2) [] E t) env (.im (.int (drawnI x i))) := by
  obtain ⟨k, rfl⟩ := Int.eq_ofNat_of_zero_le c.1
  exact ev_call h flat2 (S_drawn.mk x k (by omega)) trivial
theorem v_near {p q : Int × Int} {i : Int} (c : 0 ≤ i ∧ i < 14) (h : EvA K B t env [.im (eP eI eI p), .im (eP eI eI q), .im (.int i)]) : Ev K B (tCall (spX K S_lnear 3) [] E t) env (.im (.bl (nearP p q i))) := by
  obtain ⟨k, rfl⟩ := Int.eq_ofNat_of_zero_le c.1
  exact ev_call h flat3 (S_lnear.mk p.1 p.2 q.1 q.2 k (by omega)) trivial
/-! ### refusals -/
theorem so_need {σ ρ : Type} {W : WX} {u : TS} {ek : σ → Env} {er : RE ρ} {m : Pg σ ρ} {d : D} {p : D → Bool} {cc : Str} (c : Short d) (h : EvA K B t env [.im d]) (w : Wk env er.xe) (hu : Sq K B W u env ek er m) : Sq K B W (tSeq (tDrop (tCallS (spX K (S_need (He.ga K cc) p) 1) (WE W) t)) u) env ek er (cond (p d) m (some (.ex cc))) := fun o e => by
  cases q : p d with
  | true =>
    rw [q] at e
    exact sx_seq (sx_call h flat1 (.ok d c q) ⟨trivial, hu o e⟩)
  | false =>
    rw [q] at e
    cases e
    exact sx_seq (sx_call h flat1 (.ex d c q) (show oIs K ek er (.ex cc) (.ex _ env) from ⟨env, rfl, w⟩))
def toldD {ρ : Type} (f : ρ → D) (m : Pg Unit ρ) : D := match m with
  | some (.rt r) => f r
  | some (.ex c) => wordD c
  | _ => .non
/-- an end that is told: a value, None, or one of the refusals cs -/
def Told {ρ : Type} (cs : List Str) (m : Pg Unit ρ) : Prop := (∃ r, m = some (.rt r)) ∨ m = some (.nx ()) ∨ ∃ c ∈ cs, m = some (.ex c)
theorem v_told {α ρ' : Type} {F : α → Pg Unit ρ'} {en : α → List Vl} {er' : ρ' → Vl} {n : Nat} {enr : ρ' → D} {cs : List Str} (a : α) (c : Told cs (F a)) (her : ∀ r, er' r = .im (enr r)) (h : EvA K B t env (en a)) (f : ∀ r ∈ en a, Flat r) (hn : (en a).length = n) :
    Ev K B (tTold Tbs.T (wsOf K (cs.map fun x => (x, He.ga K x))) fun E => tCall (spX K (SF F en er' K) n) [] E t) env (.im (toldD enr (F a))) := by
  rcases c with ⟨r, q⟩ | q | ⟨cc, hc, q⟩
  · have s := SF.rt (er := er') (en := en) (K := K) a r q
    rw [her] at s
    rw [q]
    exact ev_told (el_call h f s (fun r z => by cases z; trivial) hn) (.ok _)
  · rw [q]
    exact ev_told (el_call h f (SF.nx (er := er') (en := en) (K := K) a q) (fun r z => by cases z; trivial) hn) (.ok _)
  · rw [q]
    exact ev_told (el_call h f (SF.ex (er := er') (en := en) (K := K) a cc q) (fun r z => by cases z) hn) (.ex _ _ (List.mem_map.mpr ⟨cc, hc, rfl⟩))
end
/-! ### data of any kind, read as a type -/
section
variable {α : Type} {K : PySem.W.Frag} {B : Hp} {env : Env} {te : TE} {f : α → D} {kvs : List (Str × α)}
def IsE (f : α → D) (d : D) : Prop := ∃ a, f a = d
noncomputable def unE [Inhabited α] (f : α → D) (d : D) : α := @dite _ (∃ a, f a = d) (Classical.propDecidable _) (fun h => Classical.choose h) fun _ => default
theorem unE_eq [Inhabited α] {d : D} (h : IsE f d) : f (unE f d) = d := by
  unfold unE
  rw [@dif_pos (∃ a, f a = d) (Classical.propDecidable _) h]
  exact Classical.choose_spec h
noncomputable def unD [Inhabited α] (f : α → D) (kvs : List (Str × D)) : List (Str × α) := emap (unE f) kvs
theorem v_any (h : Ev K B te env (.ob (eD f kvs))) : Ev K B te env (.ob (eD eA (emap f kvs))) := by
  have e : eD eA (emap f kvs) = eD f kvs := by
    show D.dct (List.map _ (List.map _ kvs)) = D.dct _
    rw [List.map_map]
    rfl
  rw [e]
  exact h
theorem v_unE [Inhabited α] {d : D} (c : IsE f d) (h : Ev K B te env (.im d)) : Ev K B te env (.im (f (unE f d))) := by
  rw [unE_eq c]
  exact h
theorem unD_eq [Inhabited α] {dvs : List (Str × D)} (c : ∀ p ∈ dvs, IsE f p.2) : emap f (unD f dvs) = dvs := by
  unfold unD
  show List.map _ (List.map _ dvs) = dvs
  rw [List.map_map]
  conv => rhs; rw [← List.map_id dvs]
  refine List.map_congr_left fun p hp => ?_
  show (p.1, f (unE f p.2)) = p
  rw [unE_eq (c p hp)]
theorem v_unD [Inhabited α] {dvs : List (Str × D)} (c : ∀ p ∈ dvs, IsE f p.2) (h : Ev K B te env (.ob (eD eA dvs))) : Ev K B te env (.ob (eD f (unD f dvs))) := by
  show Ev K B te env (.ob (.dct (emap f (unD f dvs))))
  rw [unD_eq c]
  have e : eD eA dvs = .dct dvs := by
    show D.dct (List.map _ dvs) = D.dct _
    rw [show dvs.map (fun p => (p.1, eA p.2)) = dvs from List.map_id dvs]
  rw [e] at h
  exact h
theorem v_if {β : Type} {g : β → D} {p : Bool} {t : TT} {ta tb : TE} {x y : β} (h : EvT K B t env p) (h1 : p = true → Ev K B ta env (.im (g x))) (h2 : p = false → Ev K B tb env (.im (g y))) : Ev K B (tIf t ta tb) env (.im (g (cond p x y))) := by
  cases p with
  | true => exact ev_if h h1 fun z => nomatch z
  | false => exact ev_if h (fun z => nomatch z) h2
end
section
variable {α σ ρ : Type} {K : PySem.W.Frag} {B : Hp} {env : Env} {W : WX} {t : TS} {ek : σ → Env} {er : RE ρ}
theorem so_typed [Inhabited α] {f : α → D} {d : D} {k : α → Pg σ ρ} (i : Nat) (h : env[i]? = some (.im d)) (c : IsE f d) (hu : ∀ x, Sq K B W t (env.set i (.im (f x))) ek er (k x)) : Sq K B W t env ek er (lt (unE f d) k) := fun o e => by
  have z := hu (unE f d) o e
  rw [unE_eq c] at z
  have e2 : env.set i (.im d) = env := by
    obtain ⟨h1, h2⟩ := List.getElem?_eq_some_iff.mp h
    rw [← h2]
    exact List.set_getElem_self h1
  rw [e2] at z
  exact z
end
end NM
/-! Boxes. -/
namespace NM
open PySem PySem.Spec PyProof.Rows L2
variable [Tbs]
def goodBox (d : D) : Bool := match d with
  | .tup [a, b, c, e] => isCount a 0 4095 && (isCount b 0 4095 && (isCount c 0 4095 && (isCount e 0 4095 && true)))
  | _ => false
def isBox (d : D) : Bool := match d with
  | .tup [.int a, .int b, .int c, .int e] => goodBox (.tup [.int a, .int b, .int c, .int e]) && (!decide (c < a) && !decide (e < b))
  | _ => false
theorem isCount_int {d : D} {i j : Int} (h : isCount d i j = true) : ∃ n, d = .int n := by
  cases d with
  | int n => exact ⟨n, rfl⟩
  | _ => cases h
theorem notBox {d : D} (h : goodBox d = false) : isBox d = false := by
  unfold isBox
  split
  · rw [h]
    rfl
  · rfl
theorem boxI {d : D} (h : goodBox d = true) : ∃ a b c e, d = .tup [.int a, .int b, .int c, .int e] ∧ isBox (.tup [.int a, .int b, .int c, .int e]) = (!decide (c < a) && !decide (e < b)) := by
  have h0 := h
  unfold goodBox at h
  split at h
  · rename_i a b c e
    simp only [Bool.and_eq_true] at h
    obtain ⟨h1, h2, h3, h4, _⟩ := h
    obtain ⟨a, rfl⟩ := isCount_int h1
    obtain ⟨b, rfl⟩ := isCount_int h2
    obtain ⟨c, rfl⟩ := isCount_int h3
    obtain ⟨e, rfl⟩ := isCount_int h4
    refine ⟨a, b, c, e, rfl, ?_⟩
    show (goodBox (.tup [.int a, .int b, .int c, .int e]) && (!decide (c < a) && !decide (e < b))) = _
    rw [h0]
    rfl
  · cases h
theorem isBox_of {a b c e : Int} (h1 : 0 ≤ a ∧ a ≤ c ∧ c ≤ 4095) (h2 : 0 ≤ b ∧ b ≤ e ∧ e ≤ 4095) : isBox (.tup [.int a, .int b, .int c, .int e]) = true := by
  have g : ∀ x : Int, 0 ≤ x → x ≤ 4095 → isCount (.int x) 0 4095 = true := fun x p q => by
    show (decide (0 ≤ x) && decide (x ≤ 4095)) = true
    rw [decide_eq_true p, decide_eq_true q]
    rfl
  show ((isCount (.int a) 0 4095 && (isCount (.int b) 0 4095 && (isCount (.int c) 0 4095 && (isCount (.int e) 0 4095 && true)))) && (!decide (c < a) && !decide (e < b))) = true
  rw [g a (by omega) (by omega), g b (by omega) (by omega), g c (by omega) (by omega), g e (by omega) (by omega), decide_eq_false (by omega), decide_eq_false (by omega)]
  rfl
end NM
/-! Heaps: what is near one another, step by step; plain lists, no program. -/
namespace NM
open PySem.W (DatumOrd)
section
variable {ν : Type} [DecidableEq ν] [DatumOrd ν] [TotO ν]
/-- strictly rising -/
def Up (xs : List ν) : Prop := xs.Pairwise fun a b => DatumOrd.lt a b = true
theorem Up.nodup {xs : List ν} (h : Up xs) : xs.Nodup := lt_nodup h
theorem up_ext {xs ys : List ν} (h1 : Up xs) (h2 : Up ys) (h : ∀ x, x ∈ xs ↔ x ∈ ys) : xs = ys := by
  have p : xs.Perm ys := (List.perm_ext_iff_of_nodup h1.nodup h2.nodup).mpr h
  exact (sortO_uniq p (lt_pw h1)).trans (sortO_id (lt_pw h2))
set_option inductive.autoPromoteIndices false in
/-- b is met from a, going on within S from near to near -/
inductive Cn (nr : ν → ν → Bool) (S : List ν) : ν → ν → Prop
  | refl (a : ν) (h : a ∈ S) : Cn nr S a a
  | step {a b c : ν} (h : Cn nr S a b) (hc : c ∈ S) (n : nr b c = true) : Cn nr S a c
variable {nr : ν → ν → Bool} {S : List ν}
theorem Cn.l {a b : ν} (h : Cn nr S a b) : a ∈ S := by
  induction h with
  | refl a h => exact h
  | step _ _ _ ih => exact ih
theorem Cn.r {a b : ν} (h : Cn nr S a b) : b ∈ S := by
  cases h with
  | refl a h => exact h
  | step _ h _ => exact h
theorem Cn.trans {a b c : ν} (h : Cn nr S a b) (k : Cn nr S b c) : Cn nr S a c := by
  induction k with
  | refl b _ => exact h
  | step _ hc n ih => exact .step (ih h) hc n
theorem Cn.symm (sy : ∀ a b, nr a b = nr b a) {a b : ν} (h : Cn nr S a b) : Cn nr S b a := by
  induction h with
  | refl a h => exact .refl a h
  | step h hc n ih => exact (Cn.step (.refl _ hc) h.r (by rw [sy]; exact n)).trans ih
/-- the heap of m, rising; whether m is the first of its heap -/
noncomputable def comp (nr : ν → ν → Bool) (S : List ν) (m : ν) : List ν := S.filter fun n => @decide (Cn nr S m n) (Classical.propDecidable _)
noncomputable def isHead (nr : ν → ν → Bool) (S : List ν) (m : ν) : Bool := @decide (∀ n, Cn nr S m n → DatumOrd.lt n m = false) (Classical.propDecidable _)
noncomputable def heads (nr : ν → ν → Bool) (S : List ν) : List ν := S.filter (isHead nr S)
noncomputable def heapsS (nr : ν → ν → Bool) (S : List ν) : List (List ν) := (heads nr S).map (comp nr S)
theorem mem_comp {m n : ν} : n ∈ comp nr S m ↔ Cn nr S m n := by
  unfold comp
  rw [List.mem_filter]
  constructor
  · exact fun h => @of_decide_eq_true _ (Classical.propDecidable _) h.2
  · exact fun h => ⟨h.r, @decide_eq_true _ (Classical.propDecidable _) h⟩
theorem head_iff {m : ν} : isHead nr S m = true ↔ ∀ n, Cn nr S m n → DatumOrd.lt n m = false := by
  unfold isHead
  exact @decide_eq_true_iff _ (Classical.propDecidable _)
theorem comp_up (h : Up S) (m : ν) : Up (comp nr S m) := List.Pairwise.filter _ h
theorem heads_up (h : Up S) : Up (heads nr S) := List.Pairwise.filter _ h
/-! ### gathering, one heap -/
structure Dfs (nr : ν → ν → Bool) (S : List ν) (m : ν) (left0 row fresh left : List ν) : Prop where
  perm : (row ++ fresh ++ left).Perm (m :: left0)
  hm : m ∈ row ++ fresh
  rch : ∀ x ∈ row ++ fresh, Cn nr S m x
  cl : ∀ x ∈ row, ∀ y ∈ left, nr x y = false
  sub : left.Sublist left0
theorem Dfs.start {m : ν} {left0 : List ν} (h : m ∈ S) : Dfs nr S m left0 [] [m] left0 :=
  ⟨List.Perm.refl _, by simp, fun x hx => by
    have : x = m := by simpa using hx
    rw [this]
    exact .refl m h, fun x hx => by simp at hx, List.Sublist.refl _⟩
theorem Dfs.step {m x : ν} {left0 row init left : List ν} (hS : ∀ y ∈ left0, y ∈ S) (d : Dfs nr S m left0 row (init ++ [x]) left) :
    Dfs nr S m left0 (row ++ [x]) (init ++ left.filter fun y => nr x y) (left.filter fun y => !nr x y) := by
  have hx : Cn nr S m x := d.rch x (by simp)
  refine ⟨?_, ?_, fun y hy => ?_, fun y hy z hz => ?_, (List.filter_sublist).trans d.sub⟩
  · refine List.Perm.trans ?_ d.perm
    have p1 : (left.filter (fun y => nr x y) ++ left.filter fun y => !nr x y).Perm left := List.filter_append_perm _ _
    have p2 : (row ++ [x] ++ (init ++ left.filter fun y => nr x y) ++ left.filter fun y => !nr x y).Perm (row ++ [x] ++ init ++ left) := by
      rw [← List.append_assoc (row ++ [x]) init, List.append_assoc (row ++ [x] ++ init)]
      exact List.Perm.append_left _ p1
    refine p2.trans ?_
    refine List.Perm.append_right _ ?_
    rw [List.append_assoc]
    exact List.Perm.append_left _ List.perm_append_comm
  · have h := d.hm
    simp only [List.mem_append, List.mem_singleton] at h ⊢
    rcases h with h | h | h
    · exact .inl (.inl h)
    · exact .inr (.inl h)
    · exact .inl (.inr h)
  · simp only [List.mem_append, List.mem_singleton, List.mem_filter] at hy
    rcases hy with (hy | hy) | hy | ⟨hy, hn⟩
    · exact d.rch y (by simp [hy])
    · rw [hy]
      exact hx
    · exact d.rch y (by simp [hy])
    · exact .step hx (hS y (d.sub.subset hy)) hn
  · obtain ⟨hz, hn⟩ := List.mem_filter.mp hz
    rcases List.mem_append.mp hy with hy | hy
    · exact d.cl y hy z hz
    · rw [List.mem_singleton.mp hy]
      cases e : nr x z with
      | false => rfl
      | true =>
        rw [e] at hn
        cases hn
/-- L is closed within S -/
def Cl (nr : ν → ν → Bool) (S L : List ν) : Prop := ∀ x ∈ L, ∀ y ∈ S, nr x y = true → y ∈ L
theorem Dfs.done {m : ν} {left0 row left : List ν} (sy : ∀ a b, nr a b = nr b a) (up : Up (m :: left0)) (cl : Cl nr S (m :: left0)) (hS : ∀ y ∈ m :: left0, y ∈ S) (d : Dfs nr S m left0 row [] left) :
    (∀ y, y ∈ row ↔ Cn nr S m y) ∧ Cl nr S left ∧ row.Nodup ∧ (∀ y, y ∈ left ↔ y ∈ left0 ∧ y ∉ row) ∧ m ∈ row := by
  have hm : m ∈ row := by simpa using d.hm
  have pm : ∀ y, y ∈ m :: left0 ↔ y ∈ row ∨ y ∈ left := fun y => by
    rw [← d.perm.mem_iff]
    simp
  have nd : (row ++ left).Nodup := by
    have z := (d.perm.nodup_iff).mpr up.nodup
    rw [List.append_nil] at z
    exact z
  obtain ⟨n1, n2, n3⟩ := List.nodup_append.mp nd
  have r1 : ∀ y, Cn nr S m y → y ∈ row := fun y h => by
    induction h with
    | refl => exact hm
    | @step a b c h hc n ih =>
      have hb := ih up cl hS d hm pm
      have hL := cl b ((pm b).mpr (.inl hb)) c hc n
      rcases (pm c).mp hL with q | q
      · exact q
      · have z := d.cl b hb c q
        rw [n] at z
        cases z
  refine ⟨fun y => ⟨fun h => d.rch y (by simpa using h), r1 y⟩, fun x hx y hy n => ?_, n1, fun y => ⟨fun h => ⟨d.sub.subset h, fun z => n3 y z y h rfl⟩, fun h => ?_⟩, hm⟩
  · have hL := cl x ((pm x).mpr (.inr hx)) y hy n
    rcases (pm y).mp hL with q | q
    · have z := d.cl y q x hx
      rw [sy, n] at z
      cases z
    · exact q
  · rcases (pm y).mp (List.mem_cons_of_mem _ h.1) with q | q
    · exact absurd q h.2
    · exact q
/-! ### gathering, all heaps -/
structure Gat (nr : ν → ν → Bool) (S : List ν) (found : List (List ν)) (left : List ν) : Prop where
  up : Up left
  sub : ∀ y ∈ left, y ∈ S
  cl : Cl nr S left
  hd : ∃ hs, found = hs.map (comp nr S) ∧ heads nr S = hs ++ left.filter (isHead nr S)
theorem Gat.start (up : Up S) : Gat nr S [] S := ⟨up, fun _ h => h, fun _ _ y hy _ => hy, [], rfl, rfl⟩
theorem Gat.step {found : List (List ν)} {m : ν} {left0 row left : List ν} (sy : ∀ a b, nr a b = nr b a) (upS : Up S) (g : Gat nr S found (m :: left0)) (d : Dfs nr S m left0 row [] left) :
    sortO row = comp nr S m ∧ Gat nr S (found ++ [comp nr S m]) left := by
  obtain ⟨h1, h2, h3, h4, hm⟩ := d.done sy g.up g.cl g.sub
  have upL : Up left := List.Pairwise.sublist d.sub (List.Pairwise.of_cons g.up)
  have mL := (List.pairwise_cons.mp g.up).1
  have sr : sortO row = comp nr S m := up_ext (sortO_lt h3) (comp_up upS m) fun x => by rw [mem_sortO, h1, mem_comp]
  have hdm : isHead nr S m = true := head_iff.mpr fun n hn => by
    have z : n ∈ m :: left0 := by
      have q := (h1 n).mpr hn
      exact d.perm.mem_iff.mp (by simp [q])
    rcases List.mem_cons.mp z with rfl | z
    · exact TotO.irr _
    · exact TotO.asym (mL n z)
  obtain ⟨hs, e1, e2⟩ := g.hd
  refine ⟨sr, upL, fun y hy => g.sub y (List.mem_cons_of_mem _ ((h4 y).mp hy).1), h2, hs ++ [m], by rw [e1, List.map_append]; rfl, ?_⟩
  rw [e2, List.filter_cons, if_pos hdm, List.append_assoc, List.singleton_append]
  congr 2
  refine up_ext (List.Pairwise.filter _ (List.Pairwise.of_cons g.up)) (List.Pairwise.filter _ upL) fun x => ?_
  rw [List.mem_filter, List.mem_filter, h4]
  constructor
  · rintro ⟨a, b⟩
    refine ⟨⟨a, fun hr => ?_⟩, b⟩
    have z := head_iff.mp b m ((h1 x).mp hr |>.symm sy)
    rw [mL x a] at z
    cases z
  · rintro ⟨⟨a, _⟩, b⟩
    exact ⟨a, b⟩
theorem Gat.done {found : List (List ν)} (g : Gat nr S found []) : found = heapsS nr S := by
  obtain ⟨hs, e1, e2⟩ := g.hd
  rw [List.filter_nil, List.append_nil] at e2
  rw [e1, heapsS, e2]
/-- the heap of a head begins by it -/
theorem comp_cons (up : Up S) {m : ν} (h : isHead nr S m = true) (hm : m ∈ S) : ∃ r, comp nr S m = m :: r := by
  have hc : m ∈ comp nr S m := mem_comp.mpr (.refl m hm)
  have u := comp_up (nr := nr) up m
  cases e : comp nr S m with
  | nil => rw [e] at hc; cases hc
  | cons x r =>
    rw [e] at hc u
    rcases List.mem_cons.mp hc with q | q
    · exact ⟨r, by rw [q]⟩
    · have z := (List.pairwise_cons.mp u).1 m q
      have z2 := head_iff.mp h x (mem_comp.mp (by rw [e]; exact List.mem_cons_self))
      rw [z] at z2
      cases z2
end
end NM
/-! Heaps by names that are called alike; plain lists, no program. -/
namespace NM
open PySem
open PySem.W (DatumOrd)
variable {nr : Str → Str → Bool} {S : List Str}
/-- each name's calling: one met from it, no greater -/
structure Lab (nr : Str → Str → Bool) (S : List Str) (cal : Str → Str) : Prop where
  cn : ∀ n ∈ S, Cn nr S n (cal n)
  le : ∀ n ∈ S, DatumOrd.lt n (cal n) = false
def put1 (cal : Str → Str) (a v : Str) : Str → Str := fun n => if n = a then v else cal n
theorem Lab.start (S : List Str) : Lab nr S id := ⟨fun n h => .refl n h, fun n _ => TotO.irr n⟩
theorem Lab.step {cal : Str → Str} (L : Lab nr S cal) {a b : Str} (ha : a ∈ S) (hb : b ∈ S) (n : nr a b = true) (lt : DatumOrd.lt (cal b) (cal a) = true) : Lab nr S (put1 cal a (cal b)) := by
  refine ⟨fun x hx => ?_, fun x hx => ?_⟩
  · unfold put1
    by_cases e : x = a
    · rw [if_pos e, e]
      exact (Cn.step (.refl a ha) hb n).trans (L.cn b hb)
    · rw [if_neg e]
      exact L.cn x hx
  · unfold put1
    by_cases e : x = a
    · rw [if_pos e, e]
      cases h : DatumOrd.lt a (cal b) with
      | false => rfl
      | true =>
        have z := TotO.tr _ _ _ h lt
        rw [L.le a ha] at z
        cases z
    · rw [if_neg e]
      exact L.le x hx
/-- nothing is left to be called otherwise -/
def Fixed (nr : Str → Str → Bool) (S : List Str) (cal : Str → Str) : Prop := ∀ a ∈ S, ∀ b ∈ S, nr a b = true → DatumOrd.lt (cal b) (cal a) = false
/-- how much may fall yet -/
def mu (S : List Str) (cal : Str → Str) : Nat := (S.map fun n => (S.filter fun s => DatumOrd.lt s (cal n)).length).sum
theorem sum_lt {α : Type} {f g : α → Nat} : ∀ {xs : List α}, (∀ x ∈ xs, f x ≤ g x) → (∃ x ∈ xs, f x < g x) → (xs.map f).sum < (xs.map g).sum
  | [], _, ⟨x, h, _⟩ => nomatch h
  | x :: xs, h, ⟨y, hy, lt⟩ => by
    rw [List.map_cons, List.map_cons, List.sum_cons, List.sum_cons]
    have hx := h x List.mem_cons_self
    have le : (xs.map f).sum ≤ (xs.map g).sum := by
      have h2 : ∀ z ∈ xs, f z ≤ g z := fun z hz => h z (List.mem_cons_of_mem _ hz)
      clear h hy lt hx
      induction xs with
      | nil => exact Nat.le_refl _
      | cons z zs ih =>
        rw [List.map_cons, List.map_cons, List.sum_cons, List.sum_cons]
        have a := h2 z List.mem_cons_self
        have b := ih fun w hw => h2 w (List.mem_cons_of_mem _ hw)
        omega
    rcases List.mem_cons.mp hy with rfl | hy
    · omega
    · have := sum_lt (f := f) (g := g) (xs := xs) (fun z hz => h z (List.mem_cons_of_mem _ hz)) ⟨y, hy, lt⟩
      omega
theorem filter_lt_of {p q : Str → Bool} : ∀ {xs : List Str}, (∀ x ∈ xs, p x = true → q x = true) → (∃ x ∈ xs, q x = true ∧ p x = false) → (xs.filter p).length < (xs.filter q).length := by
  intro xs h1 h2
  have e : ∀ r : Str → Bool, (xs.filter r).length = (xs.map fun x => if r x = true then 1 else 0).sum := fun r => by
    clear h1 h2
    induction xs with
    | nil => rfl
    | cons x xs ih =>
      rw [List.filter_cons, List.map_cons, List.sum_cons, ← ih]
      by_cases h : r x = true
      · rw [if_pos h, if_pos h, List.length_cons]
        omega
      · rw [if_neg h, if_neg h]
        omega
  rw [e, e]
  refine sum_lt (fun x hx => ?_) ?_
  · by_cases h : p x = true
    · rw [if_pos h, if_pos (h1 x hx h)]
      exact Nat.le_refl _
    · rw [if_neg h]
      exact Nat.zero_le _
  · obtain ⟨x, hx, a, b⟩ := h2
    exact ⟨x, hx, by rw [if_pos a, if_neg (by rw [b]; exact Bool.false_ne_true)]; exact Nat.one_pos⟩
theorem mu_lt {cal : Str → Str} {a v : Str} (ha : a ∈ S) (hv : v ∈ S) (lt : DatumOrd.lt v (cal a) = true) : mu S (put1 cal a v) < mu S cal := by
  have one : (S.filter fun s => DatumOrd.lt s v).length < (S.filter fun s => DatumOrd.lt s (cal a)).length :=
    filter_lt_of (fun x _ h => TotO.tr _ _ _ h lt) ⟨v, hv, lt, TotO.irr v⟩
  refine sum_lt (fun x _ => ?_) ⟨a, ha, ?_⟩
  · unfold put1
    by_cases e : x = a
    · rw [if_pos e, e]
      exact Nat.le_of_lt one
    · rw [if_neg e]
      exact Nat.le_refl _
  · unfold put1
    rw [if_pos rfl]
    exact one
section
variable {cal : Str → Str} (sy : ∀ a b, nr a b = nr b a) (L : Lab nr S cal) (fx : Fixed nr S cal)
include sy fx in
theorem cal_near {a b : Str} (ha : a ∈ S) (hb : b ∈ S) (n : nr a b = true) : cal a = cal b := by
  have h1 := fx a ha b hb n
  have h2 := fx b hb a ha (by rw [sy]; exact n)
  rcases TotO.tot (cal a) (cal b) with e | e | e
  · exact e
  · rw [h2] at e; cases e
  · rw [h1] at e; cases e
include sy fx in
theorem cal_cn {a b : Str} (h : Cn nr S a b) : cal a = cal b := by
  induction h with
  | refl => rfl
  | step h hc n ih => exact ih.trans (cal_near sy fx h.r hc n)
include sy L fx in
theorem cal_cal {n : Str} (h : n ∈ S) : cal (cal n) = cal n := (cal_cn sy fx (L.cn n h)).symm
include sy L fx in
theorem head_cal {m : Str} (hm : m ∈ S) : isHead nr S m = true ↔ cal m = m := by
  rw [head_iff]
  constructor
  · intro h
    have h1 := h _ (L.cn m hm)
    have h2 := L.le m hm
    rcases TotO.tot (cal m) m with e | e | e
    · exact e
    · rw [h1] at e; cases e
    · rw [h2] at e; cases e
  · intro e n hn
    have h2 := L.le n hn.r
    rw [← cal_cn sy fx hn, e] at h2
    exact h2
include sy L fx in
theorem comp_cal {m n : Str} (hm : m ∈ S) (hn : n ∈ S) (e : cal m = m) : Cn nr S m n ↔ cal n = m := by
  constructor
  · intro h
    rw [← cal_cn sy fx h, e]
  · intro h
    have z := (L.cn n hn).symm sy
    rw [h] at z
    exact z
end
/-! ### dicts told by a list of keys and a function -/
section
variable {α : Type}
theorem kget_map (f : Str → α) (x : Str) : ∀ hs : List Str, kget (hs.map fun h => (h, f h)) x = if x ∈ hs then some (f x) else none
  | [] => by simp [kget]
  | h :: hs => by
    haveI : Tbs := ⟨[]⟩
    rw [List.map_cons, kget_cons, kget_map f x hs]
    by_cases e : h = x
    · subst e
      simp
    · rw [if_neg e]
      by_cases m : x ∈ hs
      · simp [m]
      · simp [m, Ne.symm e]
theorem kput_map (f : Str → α) (x : Str) (a : α) (hs : List Str) : kput (hs.map fun h => (h, f h)) x a = if x ∈ hs then hs.map (fun h => (h, if h = x then a else f h)) else hs.map (fun h => (h, f h)) ++ [(x, a)] := by
  unfold kput
  have e : ((hs.map fun h => (h, f h)).any fun p => decide (p.1 = x)) = decide (x ∈ hs) := by
    induction hs with
    | nil => simp
    | cons h hs ih =>
      rw [List.map_cons, List.any_cons, ih]
      by_cases q : h = x
      · simp [q]
      · simp [q, Ne.symm q]
  rw [e]
  by_cases m : x ∈ hs
  · rw [decide_eq_true m, if_pos rfl, if_pos m, List.map_map]
    refine List.map_congr_left fun h _ => ?_
    show (if h = x then (h, a) else (h, f h)) = (h, if h = x then a else f h)
    by_cases q : h = x
    · rw [if_pos q, if_pos q]
    · rw [if_neg q, if_neg q]
  · rw [decide_eq_false m, if_neg Bool.false_ne_true, if_neg m]
end
/-- the names by their callings, in the order of xs -/
def group (cal : Str → Str) (xs : List Str) : List (Str × List Str) := xs.foldl (fun acc n => kput acc (cal n) ((kget acc (cal n)).getD [] ++ [n])) []
theorem group_snoc (cal : Str → Str) (xs : List Str) (n : Str) : group cal (xs ++ [n]) = kput (group cal xs) (cal n) ((kget (group cal xs) (cal n)).getD [] ++ [n]) := by
  unfold group
  rw [List.foldl_append]
  rfl
theorem group_of {cal : Str → Str} (up : Up S) (h1 : ∀ n ∈ S, cal n ∈ S) (h2 : ∀ n ∈ S, cal (cal n) = cal n) (h3 : ∀ n ∈ S, DatumOrd.lt n (cal n) = false) :
    group cal S = (S.filter fun n => decide (cal n = n)).map fun h => (h, S.filter fun n => decide (cal n = h)) := by
  have key : ∀ k, k ≤ S.length → group cal (S.take k) = ((S.take k).filter fun n => decide (cal n = n)).map fun h => (h, (S.take k).filter fun n => decide (cal n = h)) := by
    intro k
    induction k with
    | zero => intro _; simp [group]
    | succ k ih =>
      intro hk
      have ih := ih (by omega)
      have hk' : k < S.length := hk
      have et : S.take (k + 1) = S.take k ++ [S[k]] := by rw [List.take_succ, List.getElem?_eq_getElem hk']; rfl
      have hn : S[k] ∈ S := List.getElem_mem hk'
      generalize hx : S[k] = n at *
      have upT : ∀ x ∈ S.take k, DatumOrd.lt x n = true := fun x hx2 => by
        have u2 : Up (S.take (k + 1)) := List.Pairwise.sublist (List.take_sublist _ _) up
        rw [et] at u2
        exact (List.pairwise_append.mp u2).2.2 x hx2 n (by simp)
      have nT : n ∉ S.take k := fun z => by
        have q := upT n z
        rw [TotO.irr] at q
        cases q
      generalize hT : S.take k = T at *
      have memT : ∀ x, x ∈ S → DatumOrd.lt x n = true → x ∈ T := fun x hxS lt => by
        obtain ⟨j, hj, rfl⟩ := List.mem_iff_getElem.mp hxS
        rw [← hT]
        by_cases hjk : j < k
        · exact List.mem_take_iff_getElem.mpr ⟨j, by omega, rfl⟩
        · exfalso
          rcases Nat.lt_or_eq_of_le (Nat.le_of_not_lt hjk) with q | q
          · have z := (List.pairwise_iff_getElem.mp up) k j hk' hj q
            rw [hx] at z
            rw [TotO.asym z] at lt
            cases lt
          · subst q
            rw [hx, TotO.irr] at lt
            cases lt
      have subT : ∀ x ∈ T, x ∈ S := fun x hx2 => by
        rw [← hT] at hx2
        exact List.mem_of_mem_take hx2
      rw [et, group_snoc, ih, kget_map, kput_map]
      by_cases hc : cal n = n
      · have nin : cal n ∉ T.filter fun n => decide (cal n = n) := fun z => by
          rw [hc] at z
          exact nT (List.mem_filter.mp z).1
        rw [if_neg nin, if_neg nin, List.filter_append, List.filter_cons, if_pos (decide_eq_true hc), List.filter_nil, List.map_append]
        congr 1
        · refine List.map_congr_left fun h hh => ?_
          rw [List.filter_append, List.filter_cons, if_neg (by
            rw [hc]
            intro z
            have z := of_decide_eq_true z
            rw [z] at nT
            exact nT (List.mem_filter.mp hh).1), List.filter_nil, List.append_nil]
        · rw [List.map_cons, List.map_nil, List.filter_append, List.filter_cons, if_pos (decide_eq_true hc), List.filter_nil, hc]
          have e0 : (T.filter fun m => decide (cal m = n)) = [] := List.filter_eq_nil_iff.mpr fun x hx2 z => by
            have z := of_decide_eq_true z
            have q := h3 x (subT x hx2)
            rw [z, upT x hx2] at q
            cases q
          rw [e0]
          rfl
      · have lt : DatumOrd.lt (cal n) n = true := by
          rcases TotO.tot (cal n) n with e | e | e
          · exact absurd e hc
          · exact e
          · rw [h3 n hn] at e; cases e
        have inn : cal n ∈ T.filter fun n => decide (cal n = n) := List.mem_filter.mpr ⟨memT _ (h1 n hn) lt, decide_eq_true (h2 n hn)⟩
        rw [if_pos inn, if_pos inn, List.filter_append, List.filter_cons, if_neg (by intro z; exact hc (of_decide_eq_true z)), List.filter_nil, List.append_nil]
        refine List.map_congr_left fun h hh => ?_
        rw [List.filter_append, List.filter_cons, List.filter_nil]
        by_cases e : h = cal n
        · rw [if_pos e, if_pos (decide_eq_true e.symm), e]
          rfl
        · rw [if_neg e, if_neg (by intro z; exact e (of_decide_eq_true z).symm), List.append_nil]
  have z := key S.length (Nat.le_refl _)
  rwa [List.take_length] at z
/-- the law's heaps -/
theorem group_heaps {cal : Str → Str} (up : Up S) (sy : ∀ a b, nr a b = nr b a) (L : Lab nr S cal) (fx : Fixed nr S cal) : group cal S = (heads nr S).map fun h => (h, comp nr S h) := by
  rw [group_of up (fun n h => (L.cn n h).r) (fun n h => cal_cal sy L fx h) L.le]
  have e : (S.filter fun n => decide (cal n = n)) = heads nr S := List.filter_congr fun m hm => by
    have q := head_cal sy L fx hm
    cases h : isHead nr S m with
    | true => exact decide_eq_true (q.mp h)
    | false => exact decide_eq_false fun z => by rw [q.mpr z] at h; cases h
  rw [e]
  refine List.map_congr_left fun h hh => ?_
  obtain ⟨hS, hd⟩ := List.mem_filter.mp hh
  congr 1
  refine List.filter_congr fun n hn => ?_
  have q := comp_cal sy L fx hS hn ((head_cal sy L fx hS).mp hd)
  by_cases c : cal n = h
  · rw [decide_eq_true c]
    exact (@decide_eq_true _ (Classical.propDecidable _) (q.mpr c)).symm
  · rw [decide_eq_false c]
    exact (@decide_eq_false _ (Classical.propDecidable _) fun z => c (q.mp z)).symm
end NM
/-! What plain programs do: loops by what holds of them, the data that == reads. -/
namespace NM
open PySem PySem.Spec PyProof.Rows L2
variable [Tbs]
section
variable {α β σ τ ρ : Type}
theorem lt_def (a : α) (k : α → β) : lt a k = k a := rfl
theorem bind_nx (s : σ) (k : σ → Pg τ ρ) : bindO (some (.nx s)) k = k s := rfl
theorem forO_inv {step : α → σ → Pg σ ρ} (I : List α → σ → Prop) {xs : List α} {s0 : σ} (h0 : I [] s0) (hs : ∀ pre x post s, xs = pre ++ x :: post → I pre s → ∃ s', step x s = some (.nx s') ∧ I (pre ++ [x]) s') : ∃ s, forO step xs s0 = some (.nx s) ∧ I xs s := by
  have key : ∀ (ys pre : List α) (s : σ), xs = pre ++ ys → I pre s → ∃ s', forO step ys s = some (.nx s') ∧ I xs s' := by
    intro ys
    induction ys with
    | nil => intro pre s e i; exact ⟨s, rfl, by rw [List.append_nil] at e; rw [e]; exact i⟩
    | cons y ys ih =>
      intro pre s e i
      obtain ⟨s', h1, h2⟩ := hs pre y ys s e i
      obtain ⟨s2, h3, h4⟩ := ih (pre ++ [y]) s' (by rw [e]; simp) h2
      refine ⟨s2, ?_, h4⟩
      unfold forO
      rw [h1]
      exact h3
  exact key xs [] s0 rfl h0
/-- a loop that only goes on -/
theorem forO_fold {step : α → σ → Pg σ ρ} (f : σ → α → σ) {xs : List α} {s0 : σ} (hs : ∀ pre x post, xs = pre ++ x :: post → step x (pre.foldl f s0) = some (.nx (f (pre.foldl f s0) x))) : forO step xs s0 = some (.nx (xs.foldl f s0)) := by
  obtain ⟨s, h1, h2⟩ := forO_inv (step := step) (fun pre s => s = pre.foldl f s0) (xs := xs) (s0 := s0) rfl fun pre x post s e i => by
    subst i
    exact ⟨_, hs pre x post e, by rw [List.foldl_append]; rfl⟩
  rw [h1, h2]
/-- .. a loop without a state -/
theorem forO_unit {step : α → Unit → Pg Unit ρ} {xs : List α} (hs : ∀ x ∈ xs, step x () = some (.nx ())) : forO step xs () = some (.nx ()) := by
  obtain ⟨s, h1, _⟩ := forO_inv (step := step) (fun _ _ => True) (xs := xs) (s0 := ()) trivial fun pre x post s e _ => ⟨(), hs x (by rw [e]; simp), trivial⟩
  exact h1
/-- .. that ends at an item -/
theorem forO_at {step : α → σ → Pg σ ρ} {pre : List α} {x : α} {post : List α} {s0 s1 : σ} (h : forO step pre s0 = some (.nx s1)) {o : Oc σ ρ} (hx : step x s1 = some o) (ho : (∃ r, o = .rt r) ∨ ∃ c, o = .ex c) (hb : ∀ y ∈ pre, ∀ s, ∀ s', step y s ≠ some (.bk s')) : forO step (pre ++ x :: post) s0 = some o := by
  induction pre generalizing s0 with
  | nil =>
    cases h
    show forO step (x :: post) s1 = _
    unfold forO
    rw [hx]
    rcases ho with ⟨r, rfl⟩ | ⟨c, rfl⟩ <;> rfl
  | cons y ys ih =>
    show forO step (y :: (ys ++ x :: post)) s0 = _
    unfold forO at h ⊢
    cases q : step y s0 with
    | none => rw [q] at h; cases h
    | some w =>
      rw [q] at h
      cases w with
      | nx s' => exact ih h fun z hz => hb z (List.mem_cons_of_mem _ hz)
      | ct s' => exact ih h fun z hz => hb z (List.mem_cons_of_mem _ hz)
      | bk s' => exact absurd q (hb y List.mem_cons_self s0 s')
      | rt r => cases h
      | ex c => cases h
theorem whileO_inv {p : σ → Prop} {c : σ → Bool} {body : σ → Pg σ ρ} (I : σ → Prop) (μ : σ → Nat) {s0 : σ} (h0 : I s0) (hI : ∀ s, I s → p s ∧ (c s = true → ∃ s', body s = some (.nx s') ∧ I s' ∧ μ s' < μ s)) :
    ∃ s, whileO p c body s0 = some (.nx s) ∧ I s ∧ c s = false := by
  have key : ∀ n s, μ s ≤ n → I s → ∃ s' m, itO p c body m s (some (.nx s')) ∧ I s' ∧ c s' = false := by
    intro n
    induction n with
    | zero =>
      intro s hn i
      obtain ⟨hp, h⟩ := hI s i
      cases e : c s with
      | false => exact ⟨s, 1, ⟨hp, .inl ⟨e, rfl⟩⟩, i, e⟩
      | true =>
        obtain ⟨s', _, _, l⟩ := h e
        omega
    | succ n ih =>
      intro s hn i
      obtain ⟨hp, h⟩ := hI s i
      cases e : c s with
      | false => exact ⟨s, 1, ⟨hp, .inl ⟨e, rfl⟩⟩, i, e⟩
      | true =>
        obtain ⟨s', h1, h2, l⟩ := h e
        obtain ⟨s2, m, h3, h4, h5⟩ := ih s' (by omega) h2
        refine ⟨s2, m + 1, ⟨hp, .inr ⟨e, ?_⟩⟩, h4, h5⟩
        rw [h1]
        exact h3
  obtain ⟨s', m, h1, h2, h3⟩ := key (μ s0) s0 (Nat.le_refl _) h0
  exact ⟨s', whileO_eq h1, h2, h3⟩
theorem while_then {p : σ → Prop} {c : σ → Bool} {body : σ → Pg σ ρ} {k : σ → Pg τ ρ} {o : Pg τ ρ} {s0 : σ} (I : σ → Prop) (μ : σ → Nat) (h0 : I s0) (hI : ∀ s, I s → p s ∧ (c s = true → ∃ s', body s = some (.nx s') ∧ I s' ∧ μ s' < μ s)) (hk : ∀ s, I s → c s = false → k s = o) :
    bindO (whileO p c body s0) k = o := by
  obtain ⟨s, h1, h2, h3⟩ := whileO_inv I μ h0 hI
  rw [h1]
  exact hk s h2 h3
theorem while_ex {p : σ → Prop} {c : σ → Bool} {body : σ → Pg σ ρ} {k : σ → Pg τ ρ} {Q : τ → Prop} {s0 : σ} (I : σ → Prop) (μ : σ → Nat) (h0 : I s0) (hI : ∀ s, I s → p s ∧ (c s = true → ∃ s', body s = some (.nx s') ∧ I s' ∧ μ s' < μ s)) (hk : ∀ s, I s → c s = false → ∃ s', k s = some (.nx s') ∧ Q s') :
    ∃ s', bindO (whileO p c body s0) k = some (.nx s') ∧ Q s' := by
  obtain ⟨s, h1, h2, h3⟩ := whileO_inv I μ h0 hI
  rw [h1]
  exact hk s h2 h3
theorem for_ex {step : α → σ → Pg σ ρ} {k : σ → Pg τ ρ} {Q : τ → Prop} {xs : List α} {s0 : σ} (I : List α → σ → Prop) (h0 : I [] s0) (hs : ∀ pre x post s, xs = pre ++ x :: post → I pre s → ∃ s', step x s = some (.nx s') ∧ I (pre ++ [x]) s') (hk : ∀ s, I xs s → ∃ s', k s = some (.nx s') ∧ Q s') :
    ∃ s', bindO (forO step xs s0) k = some (.nx s') ∧ Q s' := by
  obtain ⟨s, h1, h2⟩ := forO_inv I h0 hs
  rw [h1]
  exact hk s h2
theorem while_R (R : Pg τ ρ → Prop) {p : σ → Prop} {c : σ → Bool} {body : σ → Pg σ ρ} {k : σ → Pg τ ρ} {s0 : σ} (I : σ → Prop) (μ : σ → Nat) (h0 : I s0) (hI : ∀ s, I s → p s ∧ (c s = true → ∃ s', body s = some (.nx s') ∧ I s' ∧ μ s' < μ s)) (hk : ∀ s, I s → c s = false → R (k s)) :
    R (bindO (whileO p c body s0) k) := by
  obtain ⟨s, h1, h2, h3⟩ := whileO_inv I μ h0 hI
  rw [h1]
  exact hk s h2 h3
theorem for_R (R : Pg τ ρ → Prop) {step : α → σ → Pg σ ρ} {k : σ → Pg τ ρ} {xs : List α} {s0 : σ} (I : List α → σ → Prop) (h0 : I [] s0) (hs : ∀ pre x post s, xs = pre ++ x :: post → I pre s → ∃ s', step x s = some (.nx s') ∧ I (pre ++ [x]) s') (hk : ∀ s, I xs s → R (k s)) :
    R (bindO (forO step xs s0) k) := by
  obtain ⟨s, h1, h2⟩ := forO_inv I h0 hs
  rw [h1]
  exact hk s h2
theorem for_then {step : α → σ → Pg σ ρ} {k : σ → Pg τ ρ} {o : Pg τ ρ} {xs : List α} {s0 : σ} (I : List α → σ → Prop) (h0 : I [] s0) (hs : ∀ pre x post s, xs = pre ++ x :: post → I pre s → ∃ s', step x s = some (.nx s') ∧ I (pre ++ [x]) s') (hk : ∀ s, I xs s → k s = o) :
    bindO (forO step xs s0) k = o := by
  obtain ⟨s, h1, h2⟩ := forO_inv I h0 hs
  rw [h1]
  exact hk s h2
theorem nn_rt (r : ρ) : nn (some (.rt r) : Pg σ ρ) = some (.rt r) := rfl
theorem isRt_of {m : Pg Unit ρ} {r : ρ} (h : m = some (.rt r)) : IsRt m := ⟨r, h⟩
end
/-! ### == -/
section
variable {α β : Type}
theorem eL_inj {f : α → D} (hf : ∀ a b, f a = f b → a = b) {xs ys : List α} (h : eL f xs = eL f ys) : xs = ys := by
  have h : xs.map f = ys.map f := D.lst.inj h
  exact List.map_inj_right hf |>.mp h
theorem eR_inj {f : α → D} (hf : ∀ a b, f a = f b → a = b) {xs ys : List α} (h : eR f xs = eR f ys) : xs = ys := by
  have h : xs.map f = ys.map f := D.tup.inj h
  exact List.map_inj_right hf |>.mp h
theorem eS_inj (a b : Str) (h : eS a = eS b) : a = b := D.str.inj h
theorem eI_inj (a b : Int) (h : eI a = eI b) : a = b := D.int.inj h
theorem eP_inj {f : α → D} {g : β → D} (hf : ∀ a b, f a = f b → a = b) (hg : ∀ a b, g a = g b → a = b) (p q : α × β) (h : eP f g p = eP f g q) : p = q := by
  have h : [f p.1, g p.2] = [f q.1, g q.2] := D.tup.inj h
  simp only [List.cons.injEq, and_true] at h
  exact Prod.ext (hf _ _ h.1) (hg _ _ h.2)
theorem deq_enc {f : α → D} (hf : ∀ a b, f a = f b → a = b) [DecidableEq α] (a b : α) : deq (f a) (f b) = decide (a = b) := deq_of ⟨hf a b, fun e => by rw [e]⟩
theorem deq_L {f : α → D} (hf : ∀ a b, f a = f b → a = b) [DecidableEq α] (xs ys : List α) : deq (eL f xs) (eL f ys) = decide (xs = ys) := deq_of ⟨eL_inj hf, fun e => by rw [e]⟩
theorem unE_enc [Inhabited α] {f : α → D} (hf : ∀ a b, f a = f b → a = b) (a : α) : unE f (f a) = a := hf _ _ (unE_eq ⟨a, rfl⟩)
theorem isE_enc {f : α → D} (a : α) : IsE f (f a) := ⟨a, rfl⟩
/-! ### what == may read -/
theorem okD_int (i : Int) : OkD (.int i) := ⟨0, by decide, trivial⟩
theorem okD_non : OkD .non := ⟨0, by decide, trivial⟩
theorem okD_str {s : Str} (h : PyData.strOk s = true) : OkD (.str s) := ⟨0, by decide, h⟩
/-- of depth n at most -/
theorem okL {f : α → D} {n : Nat} {xs : List α} (h : ∀ x ∈ xs, Okd n (f x)) : Okd (n + 1) (eL f xs) := fun d hd => by
  obtain ⟨x, hx, rfl⟩ := List.mem_map.mp hd
  exact h x hx
theorem okR {f : α → D} {n : Nat} {xs : List α} (h : ∀ x ∈ xs, Okd n (f x)) : Okd (n + 1) (eR f xs) := fun d hd => by
  obtain ⟨x, hx, rfl⟩ := List.mem_map.mp hd
  exact h x hx
theorem okP {f : α → D} {g : β → D} {n : Nat} {p : α × β} (h1 : Okd n (f p.1)) (h2 : Okd n (g p.2)) : Okd (n + 1) (eP f g p) := fun d hd => by
  simp only [List.mem_cons, List.not_mem_nil, or_false] at hd
  rcases hd with rfl | rfl
  · exact h1
  · exact h2
end
/-! ### ranges -/
theorem mem_irange {a b x : Int} : x ∈ irange a b ↔ a ≤ x ∧ x < b := by
  unfold irange
  rw [List.mem_map]
  constructor
  · rintro ⟨i, hi, rfl⟩
    have := List.mem_range.mp hi
    omega
  · rintro ⟨h1, h2⟩
    exact ⟨(x - a).toNat, List.mem_range.mpr (by omega), by omega⟩
theorem irange_length (a b : Int) : (irange a b).length = (b - a).toNat := by
  unfold irange
  rw [List.length_map, List.length_range]
theorem atI_of {α : Type} {xs : List α} {i : Int} (h0 : 0 ≤ i) (h : i < xs.length) : L2.atI xs i = xs[i.toNat]? := by
  obtain ⟨k, rfl⟩ := Int.eq_ofNat_of_zero_le h0
  have hk : k < xs.length := by omega
  rw [atI_nat (List.getElem?_eq_getElem hk)]
  show _ = xs[k]?
  rw [List.getElem?_eq_getElem hk]
theorem atI_isSome {α : Type} {xs : List α} {i : Int} (h0 : 0 ≤ i) (h : i < xs.length) : (L2.atI xs i).isSome = true := by
  rw [atI_of h0 h, List.getElem?_eq_getElem (by omega)]
  rfl
theorem atI_getD {α : Type} {xs : List α} {i : Int} (d : α) (h0 : 0 ≤ i) (h : i < xs.length) : (L2.atI xs i).getD d = xs.getD i.toNat d := by
  rw [atI_of h0 h, List.getD_eq_getElem?_getD]
theorem atI_zero {α : Type} (x : α) (xs : List α) : L2.atI (x :: xs) 0 = some x := by
  rw [atI_of (Int.le_refl 0) (by simp)]
  rfl
theorem filter_len {α : Type} (p : α → Bool) : ∀ xs : List α, xs.length = (xs.filter p).length + (xs.filter fun x => !p x).length
  | [] => rfl
  | x :: r => by
    have ih := filter_len p r
    cases h : p x <;> simp [h] <;> omega
theorem small_le {n : Nat} (h : n ≤ 1000000) : n ≤ sizeLine := Nat.le_trans h (Nat.le_of_ble_eq_true rfl)
theorem small_lt {n : Nat} (h : n < 1000000) : n < sizeLine := Nat.lt_of_lt_of_le h (Nat.le_of_ble_eq_true rfl)
end NM
/-! More of heaps: each name's head; all names, each once. -/
namespace NM
open PySem.W (DatumOrd)
section
variable {ν : Type} [DecidableEq ν] [DatumOrd ν] [TotO ν] {nr : ν → ν → Bool} {S : List ν}
theorem comp_congr (sy : ∀ a b, nr a b = nr b a) {a b : ν} (h : Cn nr S a b) : comp nr S a = comp nr S b := by
  unfold comp
  refine List.filter_congr fun n _ => ?_
  have e : Cn nr S a n ↔ Cn nr S b n := ⟨fun z => (h.symm sy).trans z, fun z => h.trans z⟩
  by_cases q : Cn nr S a n
  · rw [@decide_eq_true _ (Classical.propDecidable _) q, @decide_eq_true _ (Classical.propDecidable _) (e.mp q)]
  · rw [@decide_eq_false _ (Classical.propDecidable _) q, @decide_eq_false _ (Classical.propDecidable _) fun z => q (e.mpr z)]
theorem has_head (up : Up S) (sy : ∀ a b, nr a b = nr b a) {n : ν} (hn : n ∈ S) : ∃ m, isHead nr S m = true ∧ m ∈ S ∧ Cn nr S m n := by
  have hu := comp_up (nr := nr) up n
  cases e : comp nr S n with
  | nil =>
    have : n ∈ comp nr S n := mem_comp.mpr (.refl n hn)
    rw [e] at this
    cases this
  | cons m r =>
    have hm : Cn nr S n m := mem_comp.mp (by rw [e]; exact List.mem_cons_self)
    refine ⟨m, head_iff.mpr fun x hx => ?_, hm.r, hm.symm sy⟩
    have hx2 : x ∈ comp nr S n := mem_comp.mpr (hm.trans hx)
    rw [e] at hx2 hu
    rcases List.mem_cons.mp hx2 with rfl | hx2
    · exact TotO.irr _
    · exact TotO.asym ((List.pairwise_cons.mp hu).1 x hx2)
theorem head_uniq {m m' : ν} (sy : ∀ a b, nr a b = nr b a) (h : isHead nr S m = true) (h' : isHead nr S m' = true) (c : Cn nr S m m') : m = m' := by
  have a := head_iff.mp h m' c
  have b := head_iff.mp h' m (c.symm sy)
  rcases TotO.tot m m' with e | e | e
  · exact e
  · rw [b] at e; cases e
  · rw [a] at e; cases e
theorem mem_heads {m : ν} : m ∈ heads nr S ↔ m ∈ S ∧ isHead nr S m = true := List.mem_filter
theorem mem_heapsS {r : List ν} : r ∈ heapsS nr S ↔ ∃ m, m ∈ S ∧ isHead nr S m = true ∧ r = comp nr S m := by
  unfold heapsS
  rw [List.mem_map]
  constructor
  · rintro ⟨m, hm, rfl⟩
    exact ⟨m, (mem_heads.mp hm).1, (mem_heads.mp hm).2, rfl⟩
  · rintro ⟨m, h1, h2, rfl⟩
    exact ⟨m, mem_heads.mpr ⟨h1, h2⟩, rfl⟩
theorem flat_mem (up : Up S) (sy : ∀ a b, nr a b = nr b a) {n : ν} : n ∈ (heapsS nr S).flatten ↔ n ∈ S := by
  rw [List.mem_flatten]
  constructor
  · rintro ⟨r, hr, hn⟩
    obtain ⟨m, _, _, rfl⟩ := mem_heapsS.mp hr
    exact (mem_comp.mp hn).r
  · intro hn
    obtain ⟨m, h1, h2, h3⟩ := has_head up sy hn
    exact ⟨_, mem_heapsS.mpr ⟨m, h2, h1, rfl⟩, mem_comp.mpr h3⟩
theorem flat_nodup (up : Up S) (sy : ∀ a b, nr a b = nr b a) : (heapsS nr S).flatten.Nodup := by
  unfold List.Nodup
  rw [List.pairwise_flatten]
  refine ⟨fun r hr => ?_, ?_⟩
  · obtain ⟨m, _, _, rfl⟩ := mem_heapsS.mp hr
    exact (comp_up up m).nodup
  · unfold heapsS
    rw [List.pairwise_map]
    refine List.Pairwise.imp_of_mem (fun {a b} ha hb l => ?_) (heads_up (nr := nr) up)
    intro x hx y hx' exy
    subst exy
    have e := head_uniq sy (mem_heads.mp ha).2 (mem_heads.mp hb).2 ((mem_comp.mp hx).trans ((mem_comp.mp hx').symm sy))
    rw [e, TotO.irr] at l
    cases l
theorem flat_perm (up : Up S) (sy : ∀ a b, nr a b = nr b a) : (heapsS nr S).flatten.Perm S :=
  (List.perm_ext_iff_of_nodup (flat_nodup up sy) up.nodup).mpr fun _ => flat_mem up sy
theorem heaps_nodup (up : Up S) (sy : ∀ a b, nr a b = nr b a) : (heapsS nr S).Nodup := by
  unfold heapsS
  have hn : (heads nr S).Nodup := (heads_up up).nodup
  unfold List.Nodup
  rw [List.pairwise_map]
  refine List.Pairwise.imp_of_mem (fun {a b} ha hb l => ?_) hn
  intro e
  have hx : a ∈ comp nr S a := mem_comp.mpr (.refl a (mem_heads.mp ha).1)
  rw [e] at hx
  exact l (head_uniq sy (mem_heads.mp ha).2 (mem_heads.mp hb).2 ((mem_comp.mp hx).symm sy))
theorem filter_one {α : Type} {p : α → Bool} {x : α} : ∀ {xs : List α}, xs.Nodup → x ∈ xs → (∀ y ∈ xs, p y = true ↔ y = x) → (xs.filter p).length = 1
  | [], _, h, _ => nomatch h
  | y :: ys, nd, h, hp => by
    rw [List.nodup_cons] at nd
    rcases List.mem_cons.mp h with rfl | h
    · rw [List.filter_cons, if_pos ((hp x List.mem_cons_self).mpr rfl), List.length_cons]
      have e : ys.filter p = [] := List.filter_eq_nil_iff.mpr fun z hz q => nd.1 (by rw [← (hp z (List.mem_cons_of_mem _ hz)).mp q]; exact hz)
      rw [e]
      rfl
    · have hy : ¬ p y = true := fun q => nd.1 (by rw [(hp y List.mem_cons_self).mp q]; exact h)
      rw [List.filter_cons, if_neg hy]
      exact filter_one nd.2 h fun z hz => hp z (List.mem_cons_of_mem _ hz)
theorem Cn.mono {nr' : ν → ν → Bool} (h : ∀ a b, nr a b = true → nr' a b = true) {a b : ν} (c : Cn nr S a b) : Cn nr' S a b := by
  induction c with
  | refl a ha => exact .refl a ha
  | step _ hc n ih => exact .step ih hc (h _ _ n)
/-- all are near one another: one heap -/
theorem heaps_all (up : Up S) (all : ∀ a ∈ S, ∀ b ∈ S, nr a b = true) : heapsS nr S = if S = [] then [] else [S] := by
  cases S with
  | nil => rfl
  | cons m r =>
    rw [if_neg (by simp)]
    have cn : ∀ a ∈ m :: r, ∀ b ∈ m :: r, Cn nr (m :: r) a b := fun a ha b hb => .step (.refl a ha) hb (all a ha b hb)
    have hc : ∀ a ∈ m :: r, comp nr (m :: r) a = m :: r := fun a ha => List.filter_eq_self.mpr fun b hb => @decide_eq_true _ (Classical.propDecidable _) (cn a ha b hb)
    have hh : heads nr (m :: r) = [m] := by
      unfold heads
      rw [List.filter_cons, if_pos (head_iff.mpr fun n hn => ?_)]
      · congr 1
        refine List.filter_eq_nil_iff.mpr fun x hx q => ?_
        have := head_iff.mp q m (cn x (List.mem_cons_of_mem _ hx) m List.mem_cons_self)
        rw [(List.pairwise_cons.mp up).1 x hx] at this
        cases this
      · rcases List.mem_cons.mp hn.r with rfl | h
        · exact TotO.irr _
        · exact TotO.asym ((List.pairwise_cons.mp up).1 n h)
    unfold heapsS
    rw [hh]
    show [comp nr (m :: r) m] = _
    rw [hc m List.mem_cons_self]
end
end NM
/-! Methods of the program's own classes. -/
namespace NM
open PySem PySem.Spec PyProof.Rows L2
variable [Tbs]
/-- a method m of the class at C that keeps the promise sp -/
structure MethAt (P : Program) (w : World) (K : PySem.W.Frag) (mg : Str → Option Value) (base : Heap) (k : Nat) (C : Addr) (m : Str) (ps : List Str) (sp : Sp) : Prop where
  ex : ∃ (f : Addr) (fd : FuncData), Meth K C m f ∧ Binds K fd ps [] ∧ FnOk P w K mg base (L2N.CX P w) k f fd ps sp
/-- o.m(..): the promise at the receiver and the arguments -/
def tMt (C : Addr) (m : Str) (sp : Sp) (E : L2.St → XK) (ta : TE) (t : TA) : TE := fun σ H Q => ta σ H fun x H1 => ∃ a dx fs, x = .ref a ∧ H1 a = some (.ins C dx fs) ∧ fs.lookup m = none ∧ t σ H1 fun vs H2 => sp (x :: vs) H2 Q (E σ)
section
variable {X : Cx} {k j : Nat} {C : Addr} {m : Str} {ps : List Str} {sp : Sp} {e o : Expr} {es : List Expr} {ta : TE} {t : TA} {pos apos : Pos} {W : WX} {E : L2.St → XK} {pl : Sem Bool}
theorem pe_mtE (F : MethAt X.prog X.w X.K X.mg X.base k C m ps sp) (hr : Room j X.A) (hk : k ≤ j) (c : Cls X.K C) (hx : ∀ σ, PassesAt (L2N.CX X.prog X.w) X σ (E σ)) (he : PE X o ta) (ha : PA X (e :: es) t)
    (hst : starEach (e :: es) X.env = (false, eval e X.env) :: starEach es X.env := by rfl) (hpl : (backTo pos (starEach es X.env)).any (·.1) = false := by rfl)
    (ht : eval (.Call (.Attribute o m apos) (e :: es) [] pos) X.env = (do
      let ov ← eval o X.env
      standAt apos.atName
      let (f, first) ← holding [ov] (getMethod ov m pl)
      callWith pos f first (backTo pos (starEach (e :: es) X.env)) (backToKw pos (keywordEach [] X.env))) := by rfl) :
    PE X (.Call (.Attribute o m apos) (e :: es) [] pos) (tMt C m sp E ta t) := by
  obtain ⟨f, fd, hm, hb, F⟩ := F.ex
  refine ⟨fun pins s σ H Q I h => ?_⟩
  refine PySem.W.methodCall_KW (pl := pl) (thn (he.run pins s σ H _ I h) fun u s1 ⟨x, H1, I1, rx, a, dx, fs, ex, ea, l, q⟩ => ?_) ht
  subst ex
  obtain rfl : u = Value.ref a := rx
  refine getmeth_ok I1 ea c hm l ?_
  refine PySem.W.callWith_K (first := [.ref a]) (h₀ := X.base) I.ok.mod.kin hm.kp (thn (ha.run pos pins s1 σ H1 _ I1 q) fun us s2 ⟨vs, H2, I2, r, q2⟩ => ⟨I2.kIn, ?_⟩) hst hpl
  exact run_fnS (us := .ref a :: us) (vs := .ref a :: vs) F (hr.mono hk) hb (hx σ) I2 (.cons rfl r) q2
theorem pe_mtE0 (F : MethAt X.prog X.w X.K X.mg X.base k C m ps sp) (hr : Room j X.A) (hk : k ≤ j) (c : Cls X.K C) (hx : ∀ σ, PassesAt (L2N.CX X.prog X.w) X σ (E σ)) (he : PE X o ta)
    (ht : eval (.Call (.Attribute o m apos) [] [] pos) X.env = (do
      let ov ← eval o X.env
      standAt apos.atName
      let (f, first) ← holding [ov] (getMethod ov m pl)
      callWith pos f first (backTo pos (starEach [] X.env)) (backToKw pos (keywordEach [] X.env))) := by rfl) :
    PE X (.Call (.Attribute o m apos) [] [] pos) (tMt C m sp E ta tNil) := by
  obtain ⟨f, fd, hm, hb, F⟩ := F.ex
  refine ⟨fun pins s σ H Q I h => ?_⟩
  refine PySem.W.methodCall_KW (pl := pl) (thn (he.run pins s σ H _ I h) fun u s1 ⟨x, H1, I1, rx, a, dx, fs, ex, ea, l, q⟩ => ?_) ht
  subst ex
  obtain rfl : u = Value.ref a := rx
  refine getmeth_ok I1 ea c hm l ?_
  exact PySem.W.callWith_K0 (first := [.ref a]) I1.kIn hm.kp (run_fnS (us := [.ref a]) (vs := [.ref a]) F (hr.mono hk) hb (hx σ) I1 (.cons rfl .nil) q)
theorem passAt0 {X : Cx} (σ : L2.St) : PassesAt (L2N.CX X.prog X.w) X σ E0 := fun pins H s e s' I h => by
  obtain ⟨_, _, _, _, _, _, _, _, _, _, _, _, z⟩ := h
  exact z.elim
end
section
variable {X : Cx} {k j : Nat} {C : Addr} {m : Str} {ps : List Str} {sp : Sp} {e o : Expr} {es : List Expr} {ta : TE} {t : TA} {pos apos : Pos} {W : WX}
/-- within a lambda's body -/
theorem passAtL {X : Cx} {A : Around} {outer : List PySem.Env} {s : Shared} {H : Hp} {E : XK} {scope : Scope} {f c' : Addr} (σ : L2.St) : PassesAt (L2N.CX X.prog X.w) (lamN X A outer s H E scope f c') σ E := fun pins H' s' e s2 I h => by
  have tk := L2N.takes_of (X := lamN X A outer s H E scope f c') (E := E) rfl rfl rfl rfl
  exact L2N.passAt tk σ pins H' s' e s2 I h
theorem pe_mtL {X : Cx} {A : Around} {outer : List PySem.Env} {s : Shared} {H : Hp} {E : XK} {scope : Scope} {f c' : Addr} {k j : Nat} {C : Addr} {m : Str} {ps : List Str} {sp : Sp} {e o : Expr} {es : List Expr} {ta : TE} {t : TA} {pos apos : Pos} {pl : Sem Bool}
    (F : MethAt X.prog X.w X.K X.mg X.base k C m ps sp) (hr : Room j (A.deeper (LamX.lamEnv X scope s.heap.objs.size f c'))) (hk : k ≤ j) (c : Cls X.K C) (he : PE (lamN X A outer s H E scope f c') o ta) (ha : PA (lamN X A outer s H E scope f c') (e :: es) t)
    (hst : starEach (e :: es) (LamX.lamEnv X scope s.heap.objs.size f c') = (false, eval e (LamX.lamEnv X scope s.heap.objs.size f c')) :: starEach es (LamX.lamEnv X scope s.heap.objs.size f c') := by rfl) (hpl : (backTo pos (starEach es (LamX.lamEnv X scope s.heap.objs.size f c'))).any (·.1) = false := by rfl)
    (ht : eval (.Call (.Attribute o m apos) (e :: es) [] pos) (LamX.lamEnv X scope s.heap.objs.size f c') = (do
      let ov ← eval o (LamX.lamEnv X scope s.heap.objs.size f c')
      standAt apos.atName
      let (f2, first) ← holding [ov] (getMethod ov m pl)
      callWith pos f2 first (backTo pos (starEach (e :: es) (LamX.lamEnv X scope s.heap.objs.size f c'))) (backToKw pos (keywordEach [] (LamX.lamEnv X scope s.heap.objs.size f c')))) := by rfl) :
    PE (lamN X A outer s H E scope f c') (.Call (.Attribute o m apos) (e :: es) [] pos) (tMt C m sp (fun _ => E) ta t) :=
  pe_mtE (X := lamN X A outer s H E scope f c') (E := fun _ => E) (pl := pl) F hr hk c (fun σ => passAtL (X := X) σ) he ha hst hpl ht
theorem pe_mtL0 {X : Cx} {A : Around} {outer : List PySem.Env} {s : Shared} {H : Hp} {E : XK} {scope : Scope} {f c' : Addr} {k j : Nat} {C : Addr} {m : Str} {ps : List Str} {sp : Sp} {o : Expr} {ta : TE} {pos apos : Pos} {pl : Sem Bool}
    (F : MethAt X.prog X.w X.K X.mg X.base k C m ps sp) (hr : Room j (A.deeper (LamX.lamEnv X scope s.heap.objs.size f c'))) (hk : k ≤ j) (c : Cls X.K C) (he : PE (lamN X A outer s H E scope f c') o ta)
    (ht : eval (.Call (.Attribute o m apos) [] [] pos) (LamX.lamEnv X scope s.heap.objs.size f c') = (do
      let ov ← eval o (LamX.lamEnv X scope s.heap.objs.size f c')
      standAt apos.atName
      let (f2, first) ← holding [ov] (getMethod ov m pl)
      callWith pos f2 first (backTo pos (starEach [] (LamX.lamEnv X scope s.heap.objs.size f c'))) (backToKw pos (keywordEach [] (LamX.lamEnv X scope s.heap.objs.size f c')))) := by rfl) :
    PE (lamN X A outer s H E scope f c') (.Call (.Attribute o m apos) [] [] pos) (tMt C m sp (fun _ => E) ta tNil) :=
  pe_mtE0 (X := lamN X A outer s H E scope f c') (E := fun _ => E) (pl := pl) F hr hk c (fun σ => passAtL (X := X) σ) he ht
end
end NM
/-! Things of one's own made of things: lists of dicts, objects; how they are looked at. -/
namespace NM
open PySem PySem.Spec PyProof.Rows L2
variable [Tbs]
/-- what one sees of a thing of one's own -/
def Sees (o : Ow) (b : Ob) : Prop := ∀ K F O H v, Kn O H → o.φ K F O v → b.φ K F H v
/-- the thing at v0 -/
def oAt (v0 : V) (o : Ow) : Ow := ⟨fun K F O v => v = v0 ∧ o.φ K F O v, fun k ⟨e, h⟩ => ⟨e, o.mono k h⟩⟩
theorem oAt_see {v0 : V} {o : Ow} {b : Ob} (s : Sees o b) : Sees (oAt v0 o) b := fun K F O H v k ⟨_, h⟩ => s K F O H v k h
theorem oM_see {d : D} : Sees (oM d) (oB d) := fun _ _ _ _ _ k e => ObsD.ofM k e
/-- a dict of one's own while it is walked -/
def oFz (od : Obj) (w : V) (ks : List (Key × V)) (d : D) : Ow := ⟨fun K F O v => v = w ∧ ∃ q kvs, w = .ref q ∧ d = .dct kvs ∧ O q = some (.frz od (.dK ks)) ∧ RpK K F ks kvs, fun {K F F' O v} k h => by
  obtain ⟨e, q, kvs, a, b, c, r⟩ := h
  exact ⟨e, q, kvs, a, b, c, r.mono k⟩⟩
theorem Kn.rdz {O H : Hp} {q : Addr} {od : Obj} {ks : List (Key × V)} (k : Kn O H) (e : O q = some (.frz od (.dK ks))) : Rd H q (.dK ks) := k.rd (.inr ⟨od, e⟩)
theorem oFz_see {od : Obj} {w : V} {ks : List (Key × V)} {d : D} : Sees (oFz od w ks d) (oB d) := fun K F O H v k h => by
  obtain ⟨rfl, q, kvs, rfl, rfl, c, r⟩ := h
  exact ⟨q, ks, rfl, k.rdz c, r⟩
theorem lk_ins {u : HO} {C dx : Addr} {fs : List (Str × V)} (e : lk u = .ins C dx fs) : u = .ins C dx fs := by
  cases u with
  | frz o w => cases w <;> cases e
  | ins a b c => exact e
  | _ => cases e
theorem nt_ins {C dx : Addr} {fs : List (Str × V)} : NT (.ins C dx fs) := fun _ z => by cases z
theorem nx_ins {C dx : Addr} {fs : List (Str × V)} : NX (.ins C dx fs) := ⟨fun _ z => (by cases z), fun _ z => (by cases z)⟩
theorem nx_own {a : Addr} : NX (.own a) := ⟨fun _ z => (by cases z), fun _ z => (by cases z)⟩
theorem Kn.ins {F H : Hp} {a C dx : Addr} {fs : List (Str × V)} (h : Kn F H) (r : F a = some (.ins C dx fs)) : H a = some (.ins C dx fs) := by
  obtain ⟨u', e1, e2⟩ := h a _ nt_ins r
  rw [lk_ins e2] at e1
  exact e1
/-- a name of one's own is looked at -/
theorem ev_see {K : PySem.W.Frag} {B : Hp} {env : Env} {i : Nat} {o : Ow} {b : Ob} (h : env[i]? = some (.ow o)) (s : Sees o b) : Ev K B (tVar i) env (.lo b) := ev_varL h s
/-! ### parts -/
/-- O is O1 and O2, apart -/
structure Dis (O1 O2 O : Hp) : Prop where
  l : ∀ a u, O1 a = some u → O a = some u
  r : ∀ a u, O2 a = some u → O a = some u
  off : OffP O1 O2
  all : ∀ a u, O a = some u → O1 a = some u ∨ O2 a = some u
theorem join_cases {F O : Hp} {a : Addr} {u : HO} (h : join F O a = some u) : O a = some u ∨ O a = none ∧ F a = some u := by
  cases q : O a with
  | none => rw [join_out q] at h; exact .inr ⟨rfl, h⟩
  | some w => rw [join_in q] at h; exact .inl h
theorem Dis.mkJ {O1 O2 : Hp} (h : OffP O1 O2) : Dis O1 O2 (join O2 O1) := ⟨fun a u e => join_in e, fun a u e => by
  rw [join_out (h.none_of e)]
  exact e, h, fun a u e => (join_cases e).imp id (·.2)⟩
theorem Dis.eq {O1 O2 O : Hp} (h : Dis O1 O2 O) : O = join O2 O1 := by
  funext a
  cases q : O1 a with
  | some u => rw [join_in q]; exact h.l a u q
  | none =>
    rw [join_out q]
    cases p : O2 a with
    | some u => exact h.r a u p
    | none =>
      cases z : O a with
      | none => rfl
      | some u => rcases h.all a u z with w | w <;> simp_all
theorem Dis.nil {O : Hp} : Dis O (fun _ => none) O := ⟨fun _ _ e => e, fun _ _ e => (by cases e), fun _ _ _ => rfl, fun _ _ e => .inl e⟩
theorem Dis.out {O1 O2 O : Hp} {a : Addr} (h : Dis O1 O2 O) (e : O a = none) : O1 a = none ∧ O2 a = none := by
  constructor
  · cases q : O1 a with
    | none => rfl
    | some u => rw [h.l a u q] at e; cases e
  · cases q : O2 a with
    | none => rfl
    | some u => rw [h.r a u q] at e; cases e
theorem Dis.kl {O1 O2 O H : Hp} (h : Dis O1 O2 O) (k : Kn O H) : Kn O1 H := fun a u n e => k a u n (h.l a u e)
theorem Dis.kr {O1 O2 O H : Hp} (h : Dis O1 O2 O) (k : Kn O H) : Kn O2 H := fun a u n e => k a u n (h.r a u e)
theorem OffP.of_join {O A B : Hp} (h : OffP O (join A B)) : OffP O A ∧ OffP O B := by
  constructor
  · intro a u e
    have z := h a u e
    cases q : B a with
    | none => rw [join_out q] at z; exact z
    | some w => rw [join_in q] at z; cases z
  · intro a u e
    have z := h a u e
    cases q : B a with
    | none => rfl
    | some w => rw [join_in q] at z; cases z
/-- O is A and B and C -/
theorem Dis.assoc {A B C R O : Hp} (h : Dis A B R) (k : Dis R C O) : Dis A (join C B) O := by
  have offBC : OffP B C := fun a u e => k.off a u (h.r a u e)
  refine ⟨fun a u e => k.l a u (h.l a u e), fun a u e => ?_, fun a u e => ?_, fun a u e => ?_⟩
  · rcases join_cases e with e | ⟨_, e⟩
    · exact k.l a u (h.r a u e)
    · exact k.r a u e
  · rw [join_out (h.off a u e)]
    exact k.off a u (h.l a u e)
  · rcases k.all a u e with e | e
    · rcases h.all a u e with e | e
      · exact .inl e
      · exact .inr (join_in e)
    · refine .inr ?_
      rw [join_out (offBC.none_of e)]
      exact e
/-- .. put together anew -/
theorem Dis.anew {A B C : Hp} (h : OffP A (join C B)) (bc : OffP B C) : Dis (join B A) C (join (join C B) A) := by
  obtain ⟨hC, hB⟩ := h.of_join
  refine ⟨fun a u e => ?_, fun a u e => ?_, fun a u e => ?_, fun a u e => ?_⟩
  · rcases join_cases e with e | ⟨z, e⟩
    · exact join_in e
    · rw [join_out z]; exact join_in e
  · rw [join_out (hC.none_of e), join_out (bc.none_of e)]
    exact e
  · rcases join_cases e with e | ⟨z, e⟩
    · exact hC a u e
    · exact bc a u e
  · rcases join_cases e with e | ⟨z, e⟩
    · exact .inl (join_in e)
    · rcases join_cases e with e | ⟨z2, e⟩
      · exact .inl (by rw [join_out z]; exact e)
      · exact .inr e
/-- things side by side -/
def SepL (K : PySem.W.Frag) (F : Hp) : List Ow → Hp → List V → Prop
  | [], _, [] => True
  | o :: os, O, v :: vs => ∃ O1 O2, Dis O1 O2 O ∧ o.φ K F O1 v ∧ SepL K F os O2 vs
  | _, _, _ => False
section
variable {K : PySem.W.Frag} {F F' : Hp}
theorem SepL.mono (k : Kn F F') : ∀ {os : List Ow} {O : Hp} {vs : List V}, SepL K F os O vs → SepL K F' os O vs
  | [], _, [], _ => trivial
  | o :: _, _, _ :: _, ⟨O1, O2, d, h, r⟩ => ⟨O1, O2, d, o.mono k h, SepL.mono k r⟩
  | [], _, _ :: _, h => h.elim
  | _ :: _, _, [], h => h.elim
theorem SepL.length : ∀ {os : List Ow} {O : Hp} {vs : List V}, SepL K F os O vs → vs.length = os.length
  | [], _, [], _ => rfl
  | _ :: _, _, _ :: _, ⟨_, _, _, _, r⟩ => congrArg (· + 1) (SepL.length r)
  | [], _, _ :: _, h => h.elim
  | _ :: _, _, [], h => h.elim
theorem SepL.focus : ∀ {os : List Ow} {O : Hp} {vs : List V} {k : Nat} {o : Ow}, SepL K F os O vs → os[k]? = some o → ∃ v Oi Or, vs[k]? = some v ∧ Dis Oi Or O ∧ o.φ K F Oi v ∧
    ∀ F' Oi' o', Kn F F' → OffP Oi' Or → o'.φ K F' Oi' v → SepL K F' (os.set k o') (join Or Oi') vs
  | [], _, _, _, _, _, e => by simp at e
  | _ :: _, _, [], _, _, h, _ => h.elim
  | o :: os, O, v :: vs, 0, _, ⟨O1, O2, d, h, r⟩, e => by
    simp at e
    subst e
    exact ⟨v, O1, O2, rfl, d, h, fun F' Oi' o' k off x => ⟨Oi', O2, Dis.mkJ off, x, r.mono k⟩⟩
  | o :: os, O, v :: vs, k + 1, o2, ⟨O1, O2, d, h, r⟩, e => by
    obtain ⟨v', Oi, Or, e1, d1, x1, back⟩ := SepL.focus r (k := k) (o := o2) (by simpa using e)
    have d2 : Dis O2 O1 O := ⟨d.r, d.l, d.off.symm, fun a u e => (d.all a u e).symm⟩
    refine ⟨v', Oi, join O1 Or, by simpa using e1, d1.assoc d2, x1, fun F' Oi' o' kk off x => ?_⟩
    have bc : OffP Or O1 := fun a u e => d2.off a u (d1.r a u e)
    have z := Dis.anew off bc
    obtain ⟨_, offR⟩ := off.of_join
    exact ⟨O1, join Or Oi', ⟨z.r, z.l, z.off.symm, fun a u e => (z.all a u e).symm⟩, o.mono kk h, back F' Oi' o' kk offR x⟩
end
/-! ### nodes -/
/-- a thing with things of its own in it: mk tells the object at its place by their values -/
def oNd (mk : PySem.W.Frag → List V → HO → Prop) (os : List Ow) : Ow := ⟨fun K F O v => ∃ p vs u Or, v = .ref p ∧ mk K vs u ∧ NX u ∧ Dis (cell p u) Or O ∧ SepL K F os Or vs, fun k ⟨p, vs, u, Or, a, b, n, c, d⟩ => ⟨p, vs, u, Or, a, b, n, c, d.mono k⟩⟩
/-- .. looked at -/
def bNd (mk : PySem.W.Frag → List V → HO → Prop) (bs : List Ob) : Ob := ⟨fun K F H v => ∃ p vs u u', v = .ref p ∧ mk K vs u ∧ NT u ∧ H p = some u' ∧ lk u' = lk u ∧ vs.length = bs.length ∧ ∀ (k : Nat) (b : Ob), bs[k]? = some b → ∃ v', vs[k]? = some v' ∧ b.φ K F H v', fun {K F F' O O' v} k k' h => by
  obtain ⟨p, vs, u, u', a, b, n, c, e, l, s⟩ := h
  obtain ⟨u2, e1, e2⟩ := k' p u' (lk_nt n e) c
  exact ⟨p, vs, u, u2, a, b, n, e1, e2.trans e, l, fun j b hb => let ⟨v', h1, h2⟩ := s j b hb; ⟨v', h1, b.mono k k' h2⟩⟩⟩
def bAny : Ob := ⟨fun _ _ _ _ => True, fun _ _ _ => trivial⟩
theorem any_see {o : Ow} : Sees o bAny := fun _ _ _ _ _ _ _ => trivial
theorem oNd_see {mk : PySem.W.Frag → List V → HO → Prop} {os : List Ow} {bs : List Ob} (hl : os.length = bs.length) (h : ∀ (k : Nat) (o : Ow) (b : Ob), os[k]? = some o → bs[k]? = some b → Sees o b) : Sees (oNd mk os) (bNd mk bs) := fun K F O H v k ⟨p, vs, u, Or, e, hm, n, d, s⟩ => by
  obtain ⟨u', e1, e2⟩ := k p u n.1 (d.l p u cell_at)
  refine ⟨p, vs, u, u', e, hm, n.1, e1, e2, by rw [s.length, hl], fun j b hb => ?_⟩
  have hj := (List.getElem?_eq_some_iff.mp hb).1
  rw [← hl] at hj
  obtain ⟨v', Oi, Or', q1, q2, q3, _⟩ := s.focus (k := j) (List.getElem?_eq_getElem hj)
  exact ⟨v', q1, h j _ b (List.getElem?_eq_getElem hj) hb K F Oi H v' (q2.kl (d.kr k)) q3⟩
def mkL (_ : PySem.W.Frag) (vs : List V) (u : HO) : Prop := u = .lst vs
def mkI (C : Str) (fs : List Str) (K : PySem.W.Frag) (vs : List V) (u : HO) : Prop := ∃ dx, u = .ins (He.ga K C) dx (fs.zip vs)
def mkD (ks : List Str) (_ : PySem.W.Frag) (vs : List V) (u : HO) : Prop := u = .dK ((ks.map Sum.inr).zip vs)
abbrev oLs (os : List Ow) : Ow := oNd mkL os
abbrev bLs (bs : List Ob) : Ob := bNd mkL bs
theorem oLs_see {α : Type} {f : α → Ow} {g : α → Ob} (xs : List α) (h : ∀ x, Sees (f x) (g x)) : Sees (oLs (xs.map f)) (bLs (xs.map g)) := oNd_see (by rw [List.length_map, List.length_map]) fun k o b h1 h2 => by
  rw [List.getElem?_map] at h1 h2
  obtain ⟨x, hx, rfl⟩ := Option.map_eq_some_iff.mp h1
  rw [hx] at h2
  cases h2
  exact h x
theorem lookup_zip {f : Str} : ∀ {fs : List Str} {vs : List V} {k : Nat} {v : V}, fs.Nodup → fs[k]? = some f → vs[k]? = some v → (fs.zip vs).lookup f = some v
  | [], _, _, _, _, h, _ => by simp at h
  | _ :: _, [], _, _, _, _, h => by simp at h
  | x :: fs, v :: vs, 0, _, nd, h, h2 => by
    simp at h h2
    subst h h2
    simp
  | x :: fs, v :: vs, k + 1, w, nd, h, h2 => by
    have h : fs[k]? = some f := by simpa using h
    have h2 : vs[k]? = some w := by simpa using h2
    have ne : (f == x) = false := by
      rw [beq_eq_false_iff_ne]
      intro z
      subst z
      exact (List.nodup_cons.mp nd).1 (List.mem_of_getElem? h)
    show ((x, v) :: fs.zip vs).lookup f = some w
    rw [List.lookup_cons, ne]
    exact lookup_zip (List.nodup_cons.mp nd).2 h h2
theorem lookup_zip_none {f : Str} : ∀ {fs : List Str} {vs : List V}, f ∉ fs → (fs.zip vs).lookup f = none
  | [], _, _ => rfl
  | _ :: _, [], _ => rfl
  | x :: fs, v :: vs, h => by
    have ne : (f == x) = false := by
      rw [beq_eq_false_iff_ne]
      intro z
      subst z
      exact h List.mem_cons_self
    show ((x, v) :: fs.zip vs).lookup f = none
    rw [List.lookup_cons, ne]
    exact lookup_zip_none fun z => h (List.mem_cons_of_mem _ z)
/-- a class of the program, and one of its attributes that the class itself has not -/
structure CF (K : PySem.W.Frag) (C : Str) (f : Str) : Prop where
  c : Cls K (He.ga K C)
  n : NoAttr K (He.ga K C) f
section
variable {K : PySem.W.Frag} {B : Hp} {env : Env} {te ti : TE} {C f : Str} {fs : List Str} {bs : List Ob} {b : Ob}
theorem rd_fld {F H H' : Hp} {v : V} (cf : CF K C f) (k : Nat) (hf : fs[k]? = some f) (nd : fs.Nodup) (hb : bs[k]? = some b) (h : (bNd (mkI C fs) bs).φ K F H v) (kn : Kn H H') : ∃ a dx us v', v = .ref a ∧ H' a = some (.ins (He.ga K C) dx us) ∧ us.lookup f = some v' ∧ b.φ K F H v' := by
  obtain ⟨p, vs, u, u', rfl, ⟨dx, rfl⟩, n, e1, e2, l, s⟩ := h
  obtain ⟨v', h1, h2⟩ := s k b hb
  rw [lk_ins e2] at e1
  exact ⟨p, dx, _, v', rfl, kn.ins e1, lookup_zip nd hf h1, h2⟩
theorem v_fld (cf : CF K C f) (k : Nat) (hf : fs[k]? = some f) (nd : fs.Nodup) (hb : bs[k]? = some b) (h : Ev K B te env (.lo (bNd (mkI C fs) bs))) : Ev K B (tFld K te f) env (.lo b) := fun F H σ R Q q =>
  h F H σ R _ fun v F' H' g x => by
    obtain ⟨a, dx, us, v', e1, e2, e3, e4⟩ := rd_fld cf k hf nd hb x (Kn.refl _)
    exact ⟨a, _, dx, us, v', e1, e2, cf.c, cf.n, e3, q v' F' H' g e4⟩
theorem v_fldB (cf : CF K C f) (k : Nat) (hf : fs[k]? = some f) (nd : fs.Nodup) (hb : bs[k]? = some b) (h : Ev K B te env (.br (bNd (mkI C fs) bs))) : Ev K B (tFld K te f) env (.br b) := fun F H σ R Q q =>
  h F H σ R _ fun v F' H' g x => by
    obtain ⟨a, dx, us, v', e1, e2, e3, e4⟩ := rd_fld cf k hf nd hb x (R.bn.kn.trans g.hk)
    exact ⟨a, _, dx, us, v', e1, e2, cf.c, cf.n, e3, q v' F' H' g e4⟩
/-- an item of a list of things -/
theorem v_ixO {α : Type} [Inhabited α] {g : α → Ob} {xs : List α} {n : Int} (c : 0 ≤ n ∧ n < xs.length ∧ xs.length ≤ sizeLine) (h : Ev K B te env (.lo (bLs (xs.map g)))) (hi : Ev K B ti env (.im (.int n))) : Ev K B (tOp (rIxL K) te ti) env (.lo (g (xs.getD n.toNat default))) := fun F H σ R Q q =>
  h F H σ R _ fun v F' H' gr x => hi F' H' σ (R.step gr) _ fun y F2 H2 g2 ry => by
    obtain ⟨c0, c1, c2⟩ := c
    have x2 := Ob.mono _ g2.fk g2.hk x
    obtain ⟨p, vs, u, u', rfl, rfl, n', e1, e2, l, s⟩ := x2
    obtain rfl := Rp.inv_int ry
    have hn : n.toNat < xs.length := by omega
    obtain ⟨v', h1, h2⟩ := s n.toNat (g (xs.getD n.toNat default)) (by rw [List.getElem?_map, List.getElem?_eq_getElem hn, List.getD_eq_getElem?_getD, List.getElem?_eq_getElem hn] <;> rfl)
    have hv : n.toNat < vs.length := (List.getElem?_eq_some_iff.mp h1).1
    have e3 : L2.atI vs n = some v' := by rw [atI_of c0 (by omega)]; exact h1
    refine ⟨p, vs, n, v', rfl, rfl, .inl (.inl ?_), e3, q v' F2 H2 (gr.trans g2) h2⟩
    rw [lk_lst e2] at e1
    exact e1
theorem v_ixOB {α : Type} [Inhabited α] {g : α → Ob} {xs : List α} {n : Int} (c : 0 ≤ n ∧ n < xs.length ∧ xs.length ≤ sizeLine) (h : Ev K B te env (.br (bLs (xs.map g)))) (hi : Ev K B ti env (.im (.int n))) : Ev K B (tOp (rIxL K) te ti) env (.br (g (xs.getD n.toNat default))) := fun F H σ R Q q =>
  h F H σ R _ fun v F' H' gr x => hi F' H' σ (R.step gr) _ fun y F2 H2 g2 ry => by
    obtain ⟨c0, c1, c2⟩ := c
    have x2 := Ob.mono _ g2.fk (Kn.refl _) x
    obtain ⟨p, vs, u, u', rfl, rfl, n', e1, e2, l, s⟩ := x2
    obtain rfl := Rp.inv_int ry
    have hn : n.toNat < xs.length := by omega
    obtain ⟨v', h1, h2⟩ := s n.toNat (g (xs.getD n.toNat default)) (by rw [List.getElem?_map, List.getElem?_eq_getElem hn, List.getD_eq_getElem?_getD, List.getElem?_eq_getElem hn] <;> rfl)
    have hv : n.toNat < vs.length := (List.getElem?_eq_some_iff.mp h1).1
    have e3 : L2.atI vs n = some v' := by rw [atI_of c0 (by omega)]; exact h1
    refine ⟨p, vs, n, v', rfl, rfl, .inl (.inl ?_), e3, q v' F2 H2 (gr.trans g2) h2⟩
    rw [lk_lst e2] at e1
    exact ((R.bn.step gr).step g2).kn.lst e1
end
/-! ### maps -/
structure PMap where
  points : List (Str × (Int × Int))
  heads : List (List (Str × Str))
instance : Inhabited PMap := ⟨⟨[], []⟩⟩
abbrev ePt : Int × Int → D := eP eI eI
abbrev fsMap : List Str := ["points", "heads"]
abbrev oDS (h : List (Str × Str)) : Ow := oM (eD eS h)
abbrev bDS (h : List (Str × Str)) : Ob := oB (eD eS h)
def oMap (m : PMap) : Ow := oNd (mkI "Map" fsMap) [oM (eD ePt m.points), oLs (m.heads.map oDS)]
def bMap (m : PMap) : Ob := bNd (mkI "Map" fsMap) [oB (eD ePt m.points), bLs (m.heads.map bDS)]
/-- only the points -/
def bMapP (pts : List (Str × (Int × Int))) : Ob := bNd (mkI "Map" fsMap) [oB (eD ePt pts), bAny]
theorem oMap_see (m : PMap) : Sees (oMap m) (bMap m) := oNd_see rfl fun k o b h1 h2 => match k, h1, h2 with
  | 0, h1, h2 => by cases h1; cases h2; exact oM_see
  | 1, h1, h2 => by cases h1; cases h2; exact oLs_see _ fun _ => oM_see
  | k + 2, h1, _ => by simp at h1
section
variable {K : PySem.W.Frag} {B : Hp} {env : Env} {te ti : TE} {m : PMap} {pts : List (Str × (Int × Int))}
theorem bMap_points (cf : CF K "Map" "points") (h : Ev K B te env (.lo (bMap m))) : Ev K B (tFld K te "points") env (.lo (oB (eD ePt m.points))) := v_fld cf 0 rfl (by decide) rfl h
theorem bMap_heads (cf : CF K "Map" "heads") (h : Ev K B te env (.lo (bMap m))) : Ev K B (tFld K te "heads") env (.lo (bLs (m.heads.map bDS))) := v_fld cf 1 rfl (by decide) rfl h
theorem bMap_points_br (cf : CF K "Map" "points") (h : Ev K B te env (.br (bMap m))) : Ev K B (tFld K te "points") env (.br (oB (eD ePt m.points))) := v_fldB cf 0 rfl (by decide) rfl h
theorem bMap_heads_br (cf : CF K "Map" "heads") (h : Ev K B te env (.br (bMap m))) : Ev K B (tFld K te "heads") env (.br (bLs (m.heads.map bDS))) := v_fldB cf 1 rfl (by decide) rfl h
theorem bMapP_points (cf : CF K "Map" "points") (h : Ev K B te env (.lo (bMapP pts))) : Ev K B (tFld K te "points") env (.lo (oB (eD ePt pts))) := v_fld cf 0 rfl (by decide) rfl h
end
end NM
/-! Within a thing of one's own: what stands at a path is read, written, lent. -/
namespace NM
open PySem PySem.Spec PyProof.Rows L2
variable [Tbs]
section
variable {σ ρ α β τ : Type} {K : PySem.W.Frag} {B H0 F0 F H : Hp} {st : L2.St} {env : Env} {Os : Nat → Hp} {i j : Nat} {td ti te ty : TE} {W : WX} {u : TS} {ek : σ → Env} {er : RE ρ}
/-- slot i holds ob b0; at td stands ot t within it; another one there gives g -/
structure Foc (K : PySem.W.Frag) (B : Hp) (env : Env) (i : Nat) (td : TE) (ob : β → Ow) (b0 : β) (ot : τ → Ow) (t : τ) (g : τ → β) : Prop where
  slot : env[i]? = some (.ow (ob b0))
  go : ∀ F O v, (ob b0).φ K F O v → ∃ v' Oi Or, Dis Oi Or O ∧ (ot t).φ K F Oi v' ∧
    (∀ F' H st, RelE K B F' H st env → st[i]? = some (some v) → Kn O H → ∀ Q : VK, (∀ F2 H2, Gr F' F2 H H2 → Q v' H2) → td st H Q) ∧
    ∀ F' Oi' z, Kn F F' → OffP Oi' Or → (ot z).φ K F' Oi' v' → (ob (g z)).φ K F' (join Or Oi') v
theorem join_none {O : Hp} : join (fun _ => none) O = O := by
  funext a
  cases q : O a with
  | none => rw [join_out q]
  | some w => rw [join_in q]
theorem join_assoc {A X Y : Hp} : join (join A X) Y = join A (join X Y) := by
  funext a
  unfold join
  cases Y a <;> rfl
theorem Foc.var {ob : β → Ow} {b : β} (h : env[i]? = some (.ow (ob b))) : Foc K B env i (tVar i) ob b ob b (fun z => z) := ⟨h, fun F O v x => ⟨v, O, fun _ => none, Dis.nil, x, fun F' H st R e k Q q => ⟨v, e, q F' H (Gr.refl R.kn)⟩, fun F' Oi' z k off x => by rw [join_none]; exact x⟩⟩
theorem Foc.unpin {ob : β → Ow} {b : β} {v0 : V} {ot : τ → Ow} {t : τ} {g : τ → β} (h : Foc K B env i td ob b (fun z => oAt v0 (ot z)) t g) : Foc K B env i td ob b ot t g := ⟨h.slot, fun F O v x => by
  obtain ⟨v', Oi, Or, d, ⟨e, y⟩, n, bk⟩ := h.go F O v x
  subst e
  exact ⟨_, Oi, Or, d, y, n, fun F' Oi' z k off w => bk F' Oi' z k off ⟨rfl, w⟩⟩⟩
/-- one step into a node -/
theorem Foc.step {τ' : Type} {td' : TE} {ob : β → Ow} {b : β} {t : τ} {g : τ → β} {mk : PySem.W.Frag → List V → HO → Prop} {ft : τ → List Ow} {ot' : τ' → Ow} {t' : τ'} {gs : τ' → τ} (k : Nat) (rd : L2.St → V → Hp → VK → Prop) (h : Foc K B env i td ob b (fun z => oNd mk (ft z)) t g)
    (hk : (ft t)[k]? = some (ot' t')) (hset : ∀ z, (ft t).set k (ot' z) = ft (gs z)) (htd : ∀ σ H Q, (td σ H fun x H1 => rd σ x H1 Q) → td' σ H Q)
    (nav : ∀ p vs u v', mk K vs u → vs[k]? = some v' → vs.length = (ft t).length → ∀ (F H : Hp) σ, RelE K B F H σ env → (∃ O, O p = some u ∧ Kn O H) → ∀ Q : VK, (∀ F2 H2, Gr F F2 H H2 → Q v' H2) → rd σ (.ref p) H Q) : Foc K B env i td' ob b ot' t' (fun z => g (gs z)) := by
  refine ⟨h.slot, fun F O v x => ?_⟩
  obtain ⟨v1, Oi, Or, d, ⟨p, vs, u, R1, rfl, hm, n, d1, s⟩, nv, bk⟩ := h.go F O v x
  obtain ⟨v', Oj, R2, e1, d2, x2, bk2⟩ := s.focus hk
  have len := s.length
  -- Oi = cell ∪ R1, R1 = Oj ∪ R2
  have d1' : Dis R1 (cell p u) Oi := ⟨d1.r, d1.l, d1.off.symm, fun a w e => (d1.all a w e).symm⟩
  have dA : Dis Oj (join (cell p u) R2) Oi := d2.assoc d1'
  have dB : Dis Oj (join Or (join (cell p u) R2)) O := dA.assoc d
  refine ⟨v', Oj, _, dB, x2, fun F' H σ R e k Q q => htd _ _ _ (nv F' H σ R e k _ fun F2 H2 g2 => ?_), fun F' Oi' z k off x3 => ?_⟩
  · exact nav p vs u v' hm e1 len F2 H2 σ (R.step g2) ⟨O, d.l p u (d1.l p u cell_at), k.trans g2.hk⟩ Q fun F3 H3 g3 => q F3 H3 (g2.trans g3)
  · obtain ⟨offC, offR⟩ := off.of_join
    obtain ⟨offc, offR2⟩ := offR.of_join
    have cR2 : OffP R2 (cell p u) := fun a w e => d1.off.symm a w (d2.r a w e)
    have jOr : OffP (join (cell p u) R2) Or := fun a w e => d.off a w (dA.r a w e)
    have z1 := Dis.anew off jOr
    have z2 := Dis.anew offR cR2
    rw [join_assoc]
    refine bk F' _ (gs z) k (fun a w e => ?_) ⟨p, vs, u, join R2 Oi', rfl, hm, n, ?_, ?_⟩
    · exact z1.off a w e
    · exact ⟨z2.r, z2.l, z2.off.symm, fun a w e => (z2.all a w e).symm⟩
    · rw [← hset z]
      exact bk2 F' Oi' (ot' z) k offR2 x3
/-- an attribute -/
theorem Foc.fld {τ' : Type} {ob : β → Ow} {b : β} {t : τ} {g : τ → β} {C f : Str} {fs : List Str} {ft : τ → List Ow} {ot' : τ' → Ow} {t' : τ'} {gs : τ' → τ} (cf : CF K C f) (k : Nat) (hf : fs[k]? = some f) (nd : fs.Nodup) (h : Foc K B env i td ob b (fun z => oNd (mkI C fs) (ft z)) t g)
    (hk : (ft t)[k]? = some (ot' t')) (hset : ∀ z, (ft t).set k (ot' z) = ft (gs z)) : Foc K B env i (tFld K td f) ob b ot' t' (fun z => g (gs z)) :=
  h.step k (fun σ x H1 Q => ∃ a C dx fs v, x = .ref a ∧ H1 a = some (.ins C dx fs) ∧ Cls K C ∧ NoAttr K C f ∧ fs.lookup f = some v ∧ Q v H1) hk hset (fun _ _ _ h => h) fun p vs u v' hm e l F H σ R ⟨O, eO, kO⟩ Q q => by
    obtain ⟨dx, rfl⟩ := hm
    exact ⟨p, _, dx, _, v', rfl, kO.ins eO, cf.c, cf.n, lookup_zip nd hf e, q F H (Gr.refl R.kn)⟩
/-- an item of a list -/
theorem Foc.ix [Inhabited α] {ob : β → Ow} {b : β} {xs : List α} {f : α → Ow} {g : List α → β} {n : Int} (h : Foc K B env i td ob b (fun z => oLs (z.map f)) xs g) (hi : Ev K B ti env (.im (.int n))) (c : 0 ≤ n ∧ n < xs.length ∧ xs.length ≤ sizeLine) :
    Foc K B env i (tOp (rIxL K) td ti) ob b f (xs.getD n.toNat default) (fun z => g (xs.set n.toNat z)) := by
  obtain ⟨c0, c1, c2⟩ := c
  have hn : n.toNat < xs.length := by omega
  refine h.step (gs := fun z => xs.set n.toNat z) n.toNat (fun σ x H1 Q => ti σ H1 fun y H2 => rIxL K x y H2 Q) ?_ (fun z => ?_) (fun _ _ _ h => h) fun p vs u v' hm e l F H σ R ⟨O, eO, kO⟩ Q q => ?_
  · rw [List.getElem?_map, List.getElem?_eq_getElem hn, List.getD_eq_getElem?_getD, List.getElem?_eq_getElem hn]
    rfl
  · rw [List.map_set]
  · refine hi F H σ R _ fun y F2 H2 g2 ry => ?_
    obtain rfl := Rp.inv_int ry
    have hm : u = .lst vs := hm
    subst hm
    rw [List.length_map] at l
    exact ⟨p, vs, n, v', rfl, rfl, .inl (.inl ((kO.trans g2.hk).lst eO)), by rw [atI_of c0 (by omega)]; exact e, q F2 H2 g2⟩
section
variable {ob : β → Ow} {b : β} {m : PMap} {g : PMap → β}
theorem Foc.points (cf : CF K "Map" "points") (h : Foc K B env i td ob b oMap m g) : Foc K B env i (tFld K td "points") ob b (fun r => oM (eD ePt r)) m.points (fun z => g { m with points := z }) :=
  Foc.fld (ft := fun m : PMap => [oM (eD ePt m.points), oLs (m.heads.map oDS)]) cf 0 rfl (by decide) h rfl fun z => rfl
theorem Foc.heads (cf : CF K "Map" "heads") (h : Foc K B env i td ob b oMap m g) : Foc K B env i (tFld K td "heads") ob b (fun r : List (List (Str × Str)) => oLs (r.map oDS)) m.heads (fun z => g { m with heads := z }) :=
  Foc.fld (ft := fun m : PMap => [oM (eD ePt m.points), oLs (m.heads.map oDS)]) (ot' := fun r : List (List (Str × Str)) => oLs (r.map oDS)) cf 1 rfl (by decide) h rfl fun z => rfl
end
/-- a part of the i-th slot's own thing is written -/
theorem RelW.writeF {v : V} {o : Ow} {Oi Oi' Or H' : Hp} (R : RelW K B H0 F0 F H st env Os) (hi : i < env.length) (hv : st[i]? = some (some v)) (d : Dis Oi Or (Os i)) (same : ∀ a, Oi a = none → H' a = H a) (dom : ∀ a u, Oi' a = some u → ∃ w, Oi a = some w) (hO : ∀ a u, Oi' a = some u → H' a = some u ∧ NX u)
    (r : o.φ K F (join Or Oi') v) : RelW K B H0 F0 F H' st (env.set i (.ow o)) (re Os i (join Or Oi')) := by
  refine R.write (O' := join Or Oi') hi hv (fun a e => same a (d.out e).1) (fun a u e => ?_) (fun a u e => ?_) r
  · rcases join_cases e with e | ⟨_, e⟩
    · obtain ⟨w, q⟩ := dom a u e
      exact ⟨w, d.l a w q⟩
    · exact ⟨u, d.r a u e⟩
  · rcases join_cases e with e | ⟨_, e⟩
    · exact hO a u e
    · obtain ⟨h1, h2⟩ := R.oh i a u (d.r a u e)
      rw [same a (d.off.none_of e)]
      exact ⟨h1, h2⟩
/-- the cell at l of one's own part -/
theorem cellF {Oi Oj H : Hp} {l : Addr} {w w' : HO} (hO : Oi l = some w) (hH : ∀ a u, Oi a = some u → H a = some u ∧ NX u) (nx : NX w') :
    (∀ a, Oi a = none → upd H l w' a = H a) ∧ (∀ a u, upd Oi l w' a = some u → ∃ w, Oi a = some w) ∧ ∀ a u, upd Oi l w' a = some u → upd H l w' a = some u ∧ NX u := by
  refine ⟨fun a ha => upd_ne (fun z => by rw [z, hO] at ha; cases ha), fun a u e => ?_, fun a u e => ?_⟩
  · by_cases z : a = l
    · exact ⟨_, by rw [z]; exact hO⟩
    · rw [upd_ne z] at e; exact ⟨_, e⟩
  · by_cases z : a = l
    · rw [z, upd_same] at e
      rw [z, upd_same]
      cases e
      exact ⟨rfl, nx⟩
    · rw [upd_ne z] at e ⊢
      exact hH a u e
theorem offUpd {Oi Or : Hp} {l : Addr} {w w' : HO} (hO : Oi l = some w) (off : OffP Oi Or) : OffP (upd Oi l w') Or := fun a u e => by
  by_cases z : a = l
  · rw [z]; exact off l w hO
  · rw [upd_ne z] at e; exact off a u e
/-- d[k] = v -/
theorem sx_dputF {P : Out → Prop} {ob : β → Ow} {b : β} {kvs : List (Str × α)} {f : α → D} {g : List (Str × α) → β} {s : Str} {a : α} (fc : Foc K B env i td ob b (fun r => oM (eD f r)) kvs g) (hv : Ev K B te env (.im (f a))) (hy : Ev K B ty env (.im (.str s))) (hl : kvs.length < sizeLine)
    (p : P (.nx (env.set i (.ow (ob (g (kput kvs s a))))))) : Sx K B W (sDPut td ty te) env P := fun H0 F0 F H σ R D q =>
  hv F H σ R.e _ fun v F1 H1 g1 rv => by
    obtain ⟨Os, R1⟩ := R.step g1
    obtain ⟨x, ev, φ⟩ := R1.sl i _ fc.slot
    obtain ⟨v', Oi, Or, d, y, nav, bk⟩ := fc.go F1 (Os i) x φ
    refine nav F1 H1 σ R1.e ev (.of fun a u _ e => (R1.oh i a u e).1) _ fun F2 H2 g2 => ?_
    have R2 := R1.step g2
    refine hy F2 H2 σ R2.e _ fun yv F3 H3 g3 ry => ?_
    obtain rfl := Rp.inv_str ry
    have R3 := R2.step g3
    obtain ⟨l, ks, rfl, hO, r⟩ := y
    have hH := (R3.oh i l _ (d.l l _ hO)).1
    have k13 : Kn F1 F3 := g2.fk.trans g3.fk
    have nv := (r.mono k13).put (s := s) (Rp.mono k13 rv)
    obtain ⟨w1, w2, w3⟩ := cellF (Oj := Or) (w' := .dK (putK ks (Sum.inr s) v)) hO (fun a u e => R3.oh i a u (d.l a u e)) nx_dK
    have hlk : ks.length < sizeLine := by rw [r.length, List.length_map]; exact hl
    refine ⟨l, _, rfl, DPut.k (k := Sum.inr s) hH hlk, q _ p F3 _ σ ⟨_, R3.writeF (List.getElem?_eq_some_iff.mp fc.slot).1 ev d w1 w2 w3 (bk F3 _ _ k13 (offUpd hO d.off) ⟨l, _, rfl, upd_same, ?_⟩)⟩⟩
    rw [← kput_emap] 
    exact nv
theorem so_dputF {ob : β → Ow} {b : β} {kvs : List (Str × α)} {f : α → D} {g : List (Str × α) → β} {s : Str} {a : α} {k : β → Pg σ ρ} (fc : Foc K B env i td ob b (fun r => oM (eD f r)) kvs g) (he : Ev K B te env (.im (f a))) (hy : Ev K B ty env (.im (.str s))) (hl : kvs.length < sizeLine)
    (h : ∀ z, Sq K B W u (env.set i (.ow (ob z))) ek er (k z)) : Sq K B W (tSeq (sDPut td ty te) u) env ek er (lt (g (kput kvs s a)) k) := fun o e =>
  sx_seq (sx_dputF fc he hy hl (h _ o e))
/-- d.pop(k), k there -/
theorem es_dpopF {ob : β → Ow} {b : β} {kvs : List (Str × α)} {f : α → D} {g : List (Str × α) → β} {s : Str} {a : α} (fc : Foc K B env i td ob b (fun r => oM (eD f r)) kvs g) (hy : Ev K B ty env (.im (.str s))) (hk : kget kvs s = some a) :
    EvS K B (tDPop1 td ty) env (f a) (env.set i (.ow (ob (g (kdrop kvs s))))) := fun H0 F0 F H σ R Q q => by
  obtain ⟨Os, R⟩ := R
  obtain ⟨x, ev, φ⟩ := R.sl i _ fc.slot
  obtain ⟨v', Oi, Or, d, y, nav, bk⟩ := fc.go F (Os i) x φ
  refine nav F H σ R.e ev (.of fun a u _ e => (R.oh i a u e).1) _ fun F1 H1 g1 => ?_
  have R1 := R.step g1
  obtain ⟨l, ks, rfl, hO, r⟩ := y
  refine ⟨l, rfl, .inl ⟨ks, .inl (R1.oh i l _ (d.l l _ hO)).1⟩, ?_⟩
  refine hy F1 H1 σ R1.e _ fun yv F3 H3 g3 ry => ?_
  obtain rfl := Rp.inv_str ry
  have R3 := R1.step g3
  have hH := (R3.oh i l _ (d.l l _ hO)).1
  have k13 : Kn F F3 := g1.fk.trans g3.fk
  obtain ⟨z, hz, rz⟩ := (r.mono k13).val (s := s) (d := f a) (by rw [kget_emap, hk] <;> rfl)
  obtain ⟨w1, w2, w3⟩ := cellF (Oj := Or) (w' := .dK (dropK ks (Sum.inr s))) hO (fun a u e => R3.oh i a u (d.l a u e)) nx_dK
  refine ⟨ks, Sum.inr s, z, hH, rfl, hz, q z F3 _ ⟨_, R3.writeF (List.getElem?_eq_some_iff.mp fc.slot).1 ev d w1 w2 w3 (bk F3 _ _ k13 (offUpd hO d.off) ⟨l, _, rfl, upd_same, ?_⟩)⟩ rz⟩
  rw [← kdrop_emap]
  exact (r.mono k13).drop
theorem so_dpopF [Inhabited α] {ob : β → Ow} {b : β} {kvs : List (Str × α)} {f : α → D} {g : List (Str × α) → β} {s : Str} {k : β → α → Pg σ ρ} (fc : Foc K B env i td ob b (fun r => oM (eD f r)) kvs g) (hy : Ev K B ty env (.im (.str s))) (hn : (kget kvs s).isSome = true)
    (h : ∀ z y, Sq K B W u ((env.set i (.ow (ob z))).set j (.im (f y))) ek er (k z y)) : Sq K B W (tSeq (tAsg (tDPop1 td ty) (gName j)) u) env ek er (lt2 (g (kdrop kvs s), (kget kvs s).getD default) k) := fun o e => by
  obtain ⟨a, ha⟩ := Option.isSome_iff_exists.mp hn
  refine sx_seq (sx_asgS (es_dpopF fc hy ha) (h _ a o ?_))
  rw [ha] at e
  exact e
theorem so_dpopXF {ob : β → Ow} {b : β} {kvs : List (Str × α)} {f : α → D} {g : List (Str × α) → β} {s : Str} {k : β → Pg σ ρ} (fc : Foc K B env i td ob b (fun r => oM (eD f r)) kvs g) (hy : Ev K B ty env (.im (.str s))) (hn : (kget kvs s).isSome = true)
    (h : ∀ z, Sq K B W u (env.set i (.ow (ob z))) ek er (k z)) : Sq K B W (tSeq (tDrop (tDPop1 td ty)) u) env ek er (lt (g (kdrop kvs s)) k) := fun o e => by
  obtain ⟨a, ha⟩ := Option.isSome_iff_exists.mp hn
  exact sx_seq (sx_dropS (es_dpopF fc hy ha) (h _ o e))
end
end NM
/-! Defs that write their first argument; what is lent. -/
namespace NM
open PySem PySem.Spec PyProof.Rows L2
variable [Tbs]
/-- H without O -/
def without (H O : Hp) : Hp := fun a => match O a with
  | some _ => none
  | none => H a
theorem without_in {H O : Hp} {a : Addr} {u : HO} (h : without H O a = some u) : H a = some u ∧ O a = none := by
  unfold without at h
  cases q : O a with
  | none => rw [q] at h; exact ⟨h, rfl⟩
  | some w => rw [q] at h; cases h
theorem without_out {H O : Hp} {a : Addr} (h : O a = none) : without H O a = H a := by
  unfold without
  rw [h]
theorem without_none {H O : Hp} {a : Addr} {u : HO} (h : O a = some u) : without H O a = none := by
  unfold without
  rw [h]
section
variable {K : PySem.W.Frag} {B H0 F0 F H : Hp} {σ : L2.St} {env : Env} {Os : Nat → Hp} {Oi Or : Hp}
/-- the state's heap without a part of one's own thing at slot i -/
theorem RelW.rest (R : RelW K B H0 F0 F H σ env Os) (i : Nat) (d : Dis Oi Or (Os i)) : Kn F (without H Oi) ∧ LamX.Tabs Tbs.T (without H Oi) ∧ Gr F0 F H0 (without H Oi) := by
  have nF : ∀ a u, NT u → F a = some u → Oi a = none := fun a u n e => (d.out ((R.of i).none_of n e)).1
  have n0 : ∀ a u, NT u → H0 a = some u → Oi a = none := fun a u n e => (d.out ((R.oz i).none_of n e)).1
  have kn : Kn F (without H Oi) := fun a u n e => by
    obtain ⟨u', e1, e2⟩ := R.gr.kn a u n e
    exact ⟨u', by rw [without_out (nF a u n e)]; exact e1, e2⟩
  have tb : LamX.Tabs Tbs.T H → LamX.Tabs Tbs.T (without H Oi) := tabs_of fun a u n e => by
    rw [without_out]
    · exact e
    · cases q : Oi a with
      | none => rfl
      | some w =>
        obtain ⟨q1, q2⟩ := R.oh i a w (d.l a w q)
        rw [q1] at e
        cases e
        exact absurd q2 n
  exact ⟨kn, tb (R.gr.tb R.bn.tb), R.gr.ff, R.gr.fr, fun a u n e => by rw [without_out (n0 a u n e)]; exact R.gr.hh a u n e, fun t => tb (R.gr.tb t), kn⟩
/-- a part of one's own thing at slot i has become another -/
theorem RelW.after {F' Hb' H' O' : Hp} {v : V} {o : Ow} {i : Nat} (R : RelW K B H0 F0 F H σ env Os) (hi : i < env.length) (hv : σ[i]? = some (some v)) (d : Dis Oi Or (Os i)) (g : Gr F F' (without H Oi) Hb') (hb : ∀ a u, Hb' a = some u → H' a = some u)
    (ho : ∀ a u, O' a = some u → H' a = some u ∧ NX u ∧ Hb' a = none) (r : o.φ K F' (join Or O') v) : RelW K B H0 F0 F' H' σ (env.set i (.ow o)) (re Os i (join Or O')) := by
  obtain ⟨_, tb, gr⟩ := R.rest i d
  have g2 := gr.trans g
  have tbH : LamX.Tabs Tbs.T Hb' → LamX.Tabs Tbs.T H' := tabs_of fun a u _ e => hb a u e
  have inHb : ∀ j, j ≠ i → ∀ a u, Os j a = some u → Hb' a = some u := fun j hj a u e => by
    obtain ⟨h1, h2⟩ := R.oh j a u e
    exact g.hh a u h2.1 (by rw [without_out (d.out (R.oo j i hj a u e)).1]; exact h1)
  have inR : ∀ a u, Or a = some u → Hb' a = some u := fun a u e => by
    obtain ⟨h1, h2⟩ := R.oh i a u (d.r a u e)
    exact g.hh a u h2.1 (by rw [without_out (d.off.none_of e)]; exact h1)
  have cs : ∀ a u, join Or O' a = some u → O' a = some u ∨ Or a = some u := fun a u e => (join_cases e).imp id (·.2)
  have offJ : ∀ k, k ≠ i → OffP (join Or O') (Os k) := fun k hk a u e => by
    rcases cs a u e with e | e
    · cases z : Os k a with
      | none => rfl
      | some w =>
        have := inHb k hk a w z
        rw [(ho a u e).2.2] at this
        cases this
    · exact R.oo i k (Ne.symm hk) a u (d.r a u e)
  refine ⟨⟨g2.ff, g2.fr, fun a u n e => hb a u (g2.hh a u n e), fun t => tbH (g2.tb t), fun a u n e => ?_⟩, R.bn, by rw [List.length_set]; exact R.len, fun j s e => ?_, fun j k n => ?_, fun j => ?_, fun j => ?_, fun j a u e => ?_⟩
  · obtain ⟨u', e1, e2⟩ := g2.kn a u n e
    exact ⟨u', hb a u' e1, e2⟩
  · by_cases q : j = i
    · subst q
      obtain ⟨rfl, _⟩ := get_set_self e
      rw [re_same]
      exact ⟨v, hv, r⟩
    · rw [List.getElem?_set_ne (Ne.symm q)] at e
      rw [re_ne q]
      exact (R.sl j s e).mono g.fk
  · by_cases q : j = i
    · subst q
      rw [re_same, re_ne (Ne.symm n)]
      exact offJ k (Ne.symm n)
    · rw [re_ne q]
      by_cases p : k = i
      · subst p
        rw [re_same]
        exact (offJ j q).symm
      · rw [re_ne p]
        exact R.oo j k n
  · by_cases q : j = i
    · rw [q, re_same]
      intro a u e w n z
      rcases cs a u e with e | e
      · obtain ⟨u', e1, _⟩ := g2.kn a w n z
        rw [(ho a u e).2.2] at e1
        cases e1
      · obtain ⟨h1, h2⟩ := R.oh i a u (d.r a u e)
        exact g.fr a u h2.1 (by rw [without_out (d.off.none_of e)]; exact h1) (R.of i a u (d.r a u e)) w n z
    · rw [re_ne q]
      intro a u e
      exact g.fr a u (R.oh j a u e).2.1 (by rw [without_out (d.out (R.oo j i q a u e)).1]; exact (R.oh j a u e).1) (R.of j a u e)
  · by_cases q : j = i
    · rw [q, re_same]
      intro a u e w n z
      rcases cs a u e with e | e
      · have := g2.hh a w n z
        rw [(ho a u e).2.2] at this
        cases this
      · exact R.oz i a u (d.r a u e) w n z
    · rw [re_ne q]; exact R.oz j
  · by_cases q : j = i
    · rw [q, re_same] at e
      rcases cs a u e with e | e
      · exact ⟨(ho a u e).1, (ho a u e).2.1⟩
      · exact ⟨hb a u (inR a u e), (R.oh i a u (d.r a u e)).2⟩
    · rw [re_ne q] at e
      exact ⟨hb a u (inHb j q a u e), (R.oh j a u e).2⟩
end
/-! ### the promise of a def that writes its first argument -/
section
variable {α M M' ρ : Type}
/-- m what the thing is, a what is handed in besides -/
def spM (K : PySem.W.Frag) (Fn : M → α → Pg M' (ρ × M')) (en : α → List D) (er : ρ → D) (ob : M → Ow) (ob' : M' → Ow) (n : Nat) : Sp := fun vs H Q E => ∃ (F Hb O : Hp) (v0 : V) (vr : List V) (m : M) (a : α),
  vs = v0 :: vr ∧ vs.length = n ∧ Kn F Hb ∧ LamX.Tabs Tbs.T Hb ∧ (∀ a u, Hb a = some u → H a = some u) ∧ (∀ a u, O a = some u → H a = some u ∧ NX u ∧ Hb a = none) ∧ RpL K F vr (en a) ∧ (ob m).φ K F O v0 ∧ match Fn m a with
  | some (.nx m') => ∀ F' Hb' H' O', Gr F F' Hb Hb' → (∀ a u, Hb' a = some u → H' a = some u) → (∀ a u, O' a = some u → H' a = some u ∧ NX u ∧ Hb' a = none) → (ob' m').φ K F' O' v0 → Q .non H'
  | some (.rt (r, m')) => ∀ F' Hb' H' O', Gr F F' Hb Hb' → (∀ a u, Hb' a = some u → H' a = some u) → (∀ a u, O' a = some u → H' a = some u ∧ NX u ∧ Hb' a = none) → (ob' m').φ K F' O' v0 → ∀ v, Rp K F' v (er r) → Q v H'
  | some (.ex c) => ∀ F' Hb' H' O', Gr F F' Hb Hb' → (∀ a u, Hb' a = some u → H' a = some u) → (∀ a u, O' a = some u → H' a = some u ∧ NX u ∧ Hb' a = none) → (ob m).φ K F' O' v0 → E (.ref (He.ga K c)) none H'
  | _ => False
end
section
variable {α M ρ' β : Type} {K : PySem.W.Frag} {B H0 F0 F H : Hp} {σ : L2.St} {env : Env} {Os : Nat → Hp} {Oi Or : Hp} {Fn : M → α → Pg M (ρ' × M)} {en : α → List D} {er : ρ' → D} {ob : β → Ow} {oi : M → Ow} {i n : Nat} {g : M → β} {m : M} {a : α}
/-- what the caller has of it -/
def MQ (K : PySem.W.Frag) (B H0 F0 : Hp) (σ : L2.St) (env : Env) (i : Nat) (er : ρ' → D) (o : M → Ow) (m : M) (res : Pg M (ρ' × M)) (Q : VK) (E : XK) : Prop := match res with
  | some (.nx m') => ∀ F' H', RelS K B H0 F0 F' H' σ (env.set i (.ow (o m'))) → Q .non H'
  | some (.rt (r, m')) => ∀ F' H' v, RelS K B H0 F0 F' H' σ (env.set i (.ow (o m'))) → Rp K F' v (er r) → Q v H'
  | some (.ex c) => ∀ F' H', RelS K B H0 F0 F' H' σ (env.set i (.ow (o m))) → E (.ref (He.ga K c)) none H'
  | _ => False
theorem spM_use {x v0 : V} {vr : List V} {Q : VK} {E : XK} (R : RelW K B H0 F0 F H σ env Os) (hi : i < env.length) (hv : σ[i]? = some (some x)) (d : Dis Oi Or (Os i)) (y : (oi m).φ K F Oi v0)
    (bk : ∀ F' Oi' z, Kn F F' → OffP Oi' Or → (oi z).φ K F' Oi' v0 → (ob (g z)).φ K F' (join Or Oi') x) (rv : RpL K F vr (en a)) (hn : (v0 :: vr).length = n) (hq : MQ K B H0 F0 σ env i er (fun z => ob (g z)) m (Fn m a) Q E) : spM K Fn en er oi oi n (v0 :: vr) H Q E := by
  obtain ⟨kn, tb, gr⟩ := R.rest i d
  refine ⟨F, without H Oi, Oi, v0, vr, m, a, rfl, hn, kn, tb, fun a u e => (without_in e).1, fun a u e => ⟨(R.oh i a u (d.l a u e)).1, (R.oh i a u (d.l a u e)).2, without_none e⟩, rv, y, ?_⟩
  have key : ∀ z F' Hb' H' O', Gr F F' (without H Oi) Hb' → (∀ a u, Hb' a = some u → H' a = some u) → (∀ a u, O' a = some u → H' a = some u ∧ NX u ∧ Hb' a = none) → (oi z).φ K F' O' v0 → RelS K B H0 F0 F' H' σ (env.set i (.ow (ob (g z)))) := fun z F' Hb' H' O' gg hb ho y' =>
    ⟨_, R.after hi hv d gg hb ho (bk F' O' z gg.fk (fun a u e => by
      cases q : Or a with
      | none => rfl
      | some w =>
        obtain ⟨h1, h2⟩ := R.oh i a w (d.r a w q)
        have := gg.hh a w h2.1 (by rw [without_out (d.off.none_of q)]; exact h1)
        rw [(ho a u e).2.2] at this
        cases this) y')⟩
  unfold MQ at hq
  cases z : Fn m a with
  | none => rw [z] at hq; exact hq
  | some w =>
    rw [z] at hq
    cases w with
    | nx m' => exact fun F' Hb' H' O' gg hb ho y' => hq F' H' (key m' F' Hb' H' O' gg hb ho y')
    | rt r =>
      obtain ⟨r, m'⟩ := r
      exact fun F' Hb' H' O' gg hb ho y' v rv => hq F' H' v (key m' F' Hb' H' O' gg hb ho y') rv
    | ex c => exact fun F' Hb' H' O' gg hb ho y' => hq F' H' (key m F' Hb' H' O' gg hb ho y')
    | bk s => exact hq
    | ct s => exact hq
end
/-! ### calls -/
/-- a call that writes -/
def callM {ρ σ τ M : Type} (m : Pg M (ρ × M)) (k : M → Pg σ τ) : Pg σ τ := match m with
  | some (.nx z) => k z
  | some (.rt (_, z)) => k z
  | some (.ex c) => some (.ex c)
  | _ => none
def IsNx {ρ M : Type} (m : Pg M (ρ × M)) : Prop := ∃ z, m = some (.nx z)
def nxO {ρ M : Type} [Inhabited M] (m : Pg M (ρ × M)) : M := match m with
  | some (.nx z) => z
  | _ => default
theorem nxO_nx {ρ M : Type} [Inhabited M] {m : Pg M (ρ × M)} (h : IsNx m) : m = some (.nx (nxO m)) := by
  obtain ⟨z, rfl⟩ := h
  rfl
/-- the thing at td is an object without a field mm -/
def IsObj {M : Type} (oi : M → Ow) (mm : Str) : Prop := ∀ K F O v m, (oi m).φ K F O v → ∃ a C dx fs, v = .ref a ∧ O a = some (.ins C dx fs) ∧ fs.lookup mm = none
section
variable {α M ρ' β σ ρ : Type} {K : PySem.W.Frag} {B : Hp} {env : Env} {Fn : M → α → Pg M (ρ' × M)} {en : α → List D} {er' : ρ' → D} {ob : β → Ow} {oi : M → Ow} {i n : Nat} {g : M → β} {m : M} {b : β} {td : TE} {tt : TA} {W : WX} {u : TS} {ek : σ → Env} {er : RE ρ} {C : Addr} {mm : Str}
theorem rp_ims {H0 F H : Hp} {vs : List V} {ds : List D} (h : VlL K B H0 F H vs (ds.map .im)) : RpL K F vs ds := VlL.ims h
/-- an object of the class C at v without a field mm -/
def ObjC (K : PySem.W.Frag) (o : Ow) (C : Addr) (mm : Str) : Prop := ∀ F O v, o.φ K F O v → ∃ a dx fs, v = .ref a ∧ O a = some (.ins C dx fs) ∧ fs.lookup mm = none
theorem meth_core (fc : Foc K B env i td ob b oi m g) (hc : ObjC K (oi m) C mm) (a : α) (ha : EvA K B tt env ((en a).map .im)) (hn : (en a).length + 1 = n) {H0 F0 F H : Hp} {st : L2.St} (R : RelS K B H0 F0 F H st env) {Q : VK} {E : L2.St → XK}
    (hq2 : MQ K B H0 F0 st env i er' (fun z => ob (g z)) m (Fn m a) Q (E st)) : tMt C mm (spM K Fn en er' oi oi n) E td tt st H Q := by
  obtain ⟨Os, R⟩ := R
  obtain ⟨x, ev, φ⟩ := R.sl i _ fc.slot
  obtain ⟨v', Oi, Or, d, y, nav, bk⟩ := fc.go F (Os i) x φ
  refine nav F H st R.e ev (.of fun a u _ e => (R.oh i a u e).1) _ fun F1 H1 g1 => ?_
  have R1 := R.step g1
  obtain ⟨p, dx, fs, e1, e2, e3⟩ := hc F Oi v' y
  refine ⟨p, dx, fs, e1, (R1.oh i p _ (d.l p _ e2)).1, e3, ?_⟩
  refine ha F1 H1 st R1.e _ fun vs F2 H2 g2 xv => ?_
  have R2 := R1.step g2
  have k12 : Kn F F2 := g1.fk.trans g2.fk
  have rv := rp_ims xv
  exact spM_use R2 (List.getElem?_eq_some_iff.mp fc.slot).1 ev d ((oi m).mono k12 y) (fun F' Oi' z k off w => bk F' Oi' z (k12.trans k) off w) rv (by rw [List.length_cons, rv.length]; exact hn) hq2
theorem so_callM (fc : Foc K B env i td ob b oi m g) (hc : ObjC K (oi m) C mm) (a : α) (ha : EvA K B tt env ((en a).map .im)) (hn : (en a).length + 1 = n) (w : Wk (env.set i (.ow (ob (g m)))) er.xe) {k : β → Pg σ ρ} (h : ∀ z, Sq K B W u (env.set i (.ow (ob z))) ek er (k z)) :
    Sq K B W (tSeq (tDrop (tMt C mm (spM K Fn en er' oi oi n) (WE W) td tt)) u) env ek er (callM (Fn m a) fun z => lt (g z) k) := fun o e => by
  refine sx_seq fun H0 F0 F H st R D q => meth_core (E := WE W) fc hc a ha hn R ?_
  unfold MQ
  cases z : Fn m a with
  | none => rw [z] at e; cases e
  | some w' =>
    rw [z] at e
    cases w' with
    | nx m' => exact fun F' H' R' => q (.nx _) (h _ o e) F' H' st R'
    | rt r =>
      obtain ⟨r, m'⟩ := r
      exact fun F' H' v R' _ => q (.nx _) (h _ o e) F' H' st R'
    | ex c =>
      cases e
      exact fun F' H' R' => q (.ex (He.ga K c) _) (show oIs K ek er (.ex c) (.ex _ _) from ⟨_, rfl, w⟩) F' H' st R'
    | bk s => cases e
    | ct s => cases e
/-- .. for its value: it comes back -/
theorem fn_core (fc : Foc K B env i td ob b oi m g) (a : α) (ha : EvA K B tt env ((en a).map .im)) (hn : (en a).length + 1 = n) {H0 F0 F H : Hp} {st : L2.St} (R : RelS K B H0 F0 F H st env) {Q : VK} {E : XK}
    (hq2 : MQ K B H0 F0 st env i er' (fun z => ob (g z)) m (Fn m a) Q E) : tCons td tt st H fun vs H' => spM K Fn en er' oi oi n vs H' Q E := by
  obtain ⟨Os, R⟩ := R
  obtain ⟨x, ev, φ⟩ := R.sl i _ fc.slot
  obtain ⟨v', Oi, Or, d, y, nav, bk⟩ := fc.go F (Os i) x φ
  refine nav F H st R.e ev (.of fun a u _ e => (R.oh i a u e).1) _ fun F1 H1 g1 => ?_
  have R1 := R.step g1
  refine ha F1 H1 st R1.e _ fun vs F2 H2 g2 xv => ?_
  have R2 := R1.step g2
  have k12 : Kn F F2 := g1.fk.trans g2.fk
  have rv := rp_ims xv
  exact spM_use R2 (List.getElem?_eq_some_iff.mp fc.slot).1 ev d ((oi m).mono k12 y) (fun F' Oi' z k off w => bk F' Oi' z (k12.trans k) off w) rv (by rw [List.length_cons, rv.length]; exact hn) hq2
/-- the end of a call that writes, wished of an expression -/
def mR (res : Pg M (ρ' × M)) (P : D → M → Prop) (e : ρ' → D) : Prop := match res with
  | some (.nx z) => P .non z
  | some (.rt (r, z)) => P (e r) z
  | _ => False
/-- what a call tells that comes back, and what has become of the thing -/
def retD (e : ρ' → D) (res : Pg M (ρ' × M)) : D := match res with
  | some (.rt (r, _)) => e r
  | _ => .non
def retM [Inhabited M] (res : Pg M (ρ' × M)) : M := match res with
  | some (.rt (_, z)) => z
  | some (.nx z) => z
  | _ => default
/-- it comes back -/
def Comes (res : Pg M (ρ' × M)) : Prop := (∃ z, res = some (.nx z)) ∨ ∃ r, res = some (.rt r)
theorem es_callM [Inhabited M] {E : L2.St → XK} (fc : Foc K B env i td ob b oi m g) (hc : ObjC K (oi m) C mm) (a : α) (ha : EvA K B tt env ((en a).map .im)) (hn : (en a).length + 1 = n) (c : Comes (Fn m a)) :
    EvS K B (tMt C mm (spM K Fn en er' oi oi n) E td tt) env (retD er' (Fn m a)) (env.set i (.ow (ob (g (retM (Fn m a)))))) := fun H0 F0 F H st R Q q => by
  refine meth_core fc hc a ha hn R ?_
  unfold MQ
  rcases c with ⟨z, e⟩ | ⟨r, e⟩
  · rw [e] at q ⊢
    exact fun F' H' R' => q .non F' H' R' .non
  · rw [e] at q ⊢
    exact fun F' H' v R' r => q v F' H' R' r
theorem es_callMF [Inhabited M] {E : XK} (fc : Foc K B env i td ob b oi m g) (a : α) (ha : EvA K B tt env ((en a).map .im)) (hn : (en a).length + 1 = n) (c : Comes (Fn m a)) :
    EvS K B (tCall (spM K Fn en er' oi oi n) [] E (tCons td tt)) env (retD er' (Fn m a)) (env.set i (.ow (ob (g (retM (Fn m a)))))) := fun H0 F0 F H st R Q q => by
  have z := fn_core (Q := Q) (E := E) fc a ha hn R (Fn := Fn) (er' := er') (by
    unfold MQ
    rcases c with ⟨z, e⟩ | ⟨r, e⟩
    · rw [e] at q ⊢
      exact fun F' H' R' => q .non F' H' R' .non
    · rw [e] at q ⊢
      exact fun F' H' v R' r => q v F' H' R' r)
  show tCons td tt st H fun vs H' => spM K Fn en er' oi oi n (vs ++ []) H' Q E
  simp only [List.append_nil]
  exact z
/-! ### told(lambda: a call that writes) -/
/-- what is told of it -/
def toldMD (e : ρ' → D) (res : Pg M (ρ' × M)) : D := match res with
  | some (.rt (r, _)) => e r
  | some (.ex c) => wordD c
  | _ => .non
def toldMM (m : M) (res : Pg M (ρ' × M)) : M := match res with
  | some (.rt (_, z)) => z
  | some (.nx z) => z
  | _ => m
def ToldM (ws : List Str) (res : Pg M (ρ' × M)) : Prop := (∃ z, res = some (.nx z)) ∨ (∃ r, res = some (.rt r)) ∨ ∃ c, c ∈ ws ∧ res = some (.ex c)
theorem es_toldM {ws : List Str} {cs : List (Str × Addr)} (hcs : ∀ c ∈ ws, (c, He.ga K c) ∈ cs) (fc : Foc K B env i td ob b oi m g) (hc : ObjC K (oi m) C mm) (a : α) (ha : EvA K B tt env ((en a).map .im)) (hn : (en a).length + 1 = n) (c : ToldM ws (Fn m a)) :
    EvS K B (tTold Tbs.T (wsOf K cs) fun E => tMt C mm (spM K Fn en er' oi oi n) (fun _ => E) td tt) env (toldMD er' (Fn m a)) (env.set i (.ow (ob (g (toldMM m (Fn m a)))))) := fun H0 F0 F H st R Q q => by
  refine ⟨R.e.bn.tb, fun H1 e T1 => ?_⟩
  have gg := Gr.tables R.e.kn e T1
  refine meth_core fc hc a ha hn (R.step gg) ?_
  unfold MQ
  rcases c with ⟨z, e⟩ | ⟨r, e⟩ | ⟨w, hw, e⟩
  · rw [e] at q ⊢
    exact fun F' H' R' => q .non F' H' R' .non
  · rw [e] at q ⊢
    exact fun F' H' v R' r => q v F' H' R' r
  · rw [e] at q ⊢
    exact fun F' H' R' => ⟨w, He.ga K w, F', hcs w hw, rfl, rfl, R'.e.kn, R'.e.bn.tb, fun v F2 H2 g2 r => q v F2 H2 (R'.step g2) r⟩
/-! ### expressions that write, further on -/
theorem es_opL {r2 : R2} {ta tb : TE} {env' : Env} {d1 d : D} {v2 : Vl} (h : EvS K B ta env d1 env') (hb : Ev K B tb env' v2) (hr : RV K r2 (.im d1) v2 (.im d)) : EvS K B (tOp r2 ta tb) env d env' := fun H0 F0 F H st R Q q =>
  h H0 F0 F H st R _ fun x F1 H1 R1 x1 => hb F1 H1 st R1.e _ fun y F2 H2 g2 y2 =>
    hr B F2 H2 x y g2.kn ⟨H2, Rp.mono g2.fk x1⟩ ⟨_, y2⟩ Q fun v F3 H3 g3 v3 => q v F3 H3 ((R1.step g2).step g3) v3
theorem sx_ifS {t u : TS} {te : TE} {env' : Env} {bb : Bool} {P : Out → Prop} (h : EvS K B te env (.bl bb) env') (h1 : bb = true → Sx K B W t env' P) (h2 : bb = false → Sx K B W u env' P) : Sx K B W (tIfS (tTest te) t u) env P := fun H0 F0 F H σ R D q =>
  h H0 F0 F H σ R _ fun v F' H' R' r => by
    have r : Rp K F' v (.bl bb) := r
    cases r
    refine ⟨bb, rfl, ?_⟩
    cases bb with
    | true => exact h1 rfl H0 F0 F' H' σ R' D q
    | false => exact h2 rfl H0 F0 F' H' σ R' D q
theorem sx_retS {te : TE} {env' : Env} {d : D} {P : Out → Prop} (h : EvS K B te env d env') (p : P (.rt (.im d) env')) : Sx K B W (tRet te) env P := fun H0 F0 F H σ R D q =>
  h H0 F0 F H σ R _ fun v F' H' R' r => q _ p F' H' σ v R' r
theorem es_if {c : TT} {ta tb : TE} {p : Bool} {d : D} {env' : Env} (hc : EvT K B c env p) (h1 : p = true → EvS K B ta env d env') (h2 : p = false → EvS K B tb env d env') : EvS K B (tIf c ta tb) env d env' := fun H0 F0 F H st R Q q =>
  hc F H st R.e _ fun F' H' g => by
    cases p with
    | true => exact h1 rfl H0 F0 F' H' st (R.step g) Q q
    | false => exact h2 rfl H0 F0 F' H' st (R.step g) Q q
end
/-! ### the rule for such a def -/
section
variable {α M M' ρ σ : Type} {K : PySem.W.Frag}
/-- the ends of a def that writes -/
def reM (n : Nat) (er : ρ → D) (v0 : V) (o : Ow) (ob' : M' → Ow) : RE (ρ × M') := ⟨fun r => .im (er r.1), fun r => .ow (oAt v0 (ob' r.2)) :: List.replicate n .un, .ow (oAt v0 o) :: List.replicate n .un⟩
theorem start_relM {F Hb H O : Hp} {N ps : List Str} {v0 : V} {vr : List V} {ds : List D} {o : Ow} (k : Kn F Hb) (tb : LamX.Tabs Tbs.T Hb) (hb : ∀ a u, Hb a = some u → H a = some u) (ho : ∀ a u, O a = some u → H a = some u ∧ NX u ∧ Hb a = none) (r : RpL K F vr ds) (x : o.φ K F O v0) (hN : (v0 :: vr).length ≤ N.length) :
    RelS K Hb Hb F F H (L2.start N (v0 :: vr)) (.ow (oAt v0 o) :: (ds.map .im ++ List.replicate (N.length - (ds.length + 1)) .un)) := by
  have kb : Kn Hb H := .of fun a u _ e => hb a u e
  refine ⟨fun i => if i = 0 then O else fun _ => none, ⟨⟨fun _ _ _ e => e, fun a u n e f => f, fun a u _ e => hb a u e, fun t => tabs_of (fun a u _ e => hb a u e) t, k.trans kb⟩, ⟨Kn.refl _, tb⟩, ?_, fun i s e => ?_, fun i j n => ?_, fun i => ?_, fun i => ?_, fun i a u e => ?_⟩⟩
  · unfold L2.start
    rw [List.length_append, List.length_map, List.length_replicate, List.length_cons, List.length_cons, List.length_append, List.length_map, List.length_replicate, r.length]
    omega
  · cases i with
    | zero =>
      cases e
      rw [if_pos rfl]
      exact ⟨v0, rfl, rfl, x⟩
    | succ i =>
      rw [if_neg (Nat.succ_ne_zero i)]
      have e : (ds.map Sl.im ++ List.replicate (N.length - (ds.length + 1)) Sl.un)[i]? = some s := e
      by_cases hi : i < ds.length
      · rw [List.getElem?_append_left (by rw [List.length_map]; exact hi), List.getElem?_map] at e
        obtain ⟨d, hd, rfl⟩ := Option.map_eq_some_iff.mp e
        obtain ⟨v, hv, rv⟩ := r.get hd
        have hs : (L2.start N (v0 :: vr))[i + 1]? = some (some v) := by
          unfold L2.start
          rw [List.getElem?_append_left (by rw [List.length_map, List.length_cons, r.length]; omega), List.getElem?_map, List.getElem?_cons_succ, hv] <;> rfl
        exact ⟨v, hs, rv⟩
      · rw [List.getElem?_append_right (by rw [List.length_map]; omega), List.getElem?_replicate] at e
        split at e
        · cases e; trivial
        · cases e
  · intro a u e
    by_cases p : i = 0
    · subst p
      rw [if_neg (Ne.symm n)]
    · rw [if_neg p] at e
      cases e
  · intro a u e w nt z
    by_cases p : i = 0
    · rw [if_pos p] at e
      obtain ⟨u', e1, _⟩ := k a w nt z
      rw [(ho a u e).2.2] at e1
      cases e1
    · rw [if_neg p] at e
      cases e
  · intro a u e w nt z
    by_cases p : i = 0
    · rw [if_pos p] at e
      rw [(ho a u e).2.2] at z
      cases z
    · rw [if_neg p] at e
      cases e
  · by_cases p : i = 0
    · rw [if_pos p] at e
      exact ⟨(ho a u e).1, (ho a u e).2.1⟩
    · rw [if_neg p] at e
      cases e
variable {P : Program} {w : World} {mg : Str → Option Value} {base : Heap}
theorem fn_okM {name qual : Str} {params : Arguments} {body : List Stmt} {scope : Scope} {dV kV doc pm cdv ct oc : Value} {an od : Option Addr} {osl : Array (Option Value)} {f : Addr} {N ps : List Str} {k : Nat} {Fn : M → α → Pg M' (ρ × M')} {en : α → List D} {er : ρ → D} {ob : M → Ow} {ob' : M' → Ow}
    (lk : K.lookup f = some ⟨oc, od, .func (PySem.W.fnOf name qual params body scope dV kV doc pm an cdv ct), osl⟩) (hcd : PySem.W.codeIn K cdv qual = true) (Sc : FnScope N ps scope) (hN : ps.length ≤ N.length) (ek : V → M' → Env) (hek : ∀ v0 m, (ek v0 m)[0]? = some (.ow (oAt v0 (ob' m)))) (hlen : ∀ a, (en a).length + 1 = ps.length)
    (hbody : ∀ (A : Around) (outer : List PySem.Env) (s : Shared) (H : Hp) (E : XK), Room k (A.deeper (envOfC qual scope s.heap.objs.size f cdv)) →
      ∃ t, PSs (cxOf (L2N.CX P w) P w K mg base N qual scope f cdv A outer s H E) body t ∧
        ∀ m a v0 B, Sq K B (fun cls d _ H => E cls d H) t (.ow (oAt v0 (ob m)) :: ((en a).map .im ++ List.replicate (N.length - ((en a).length + 1)) .un)) (ek v0) (reM (N.length - 1) er v0 (ob m) ob') (Fn m a)) :
    FnOk P w K mg base (L2N.CX P w) (k + 1) f (PySem.W.fnOf name qual params body scope dV kV doc pm an cdv ct) ps (spM K Fn en er ob ob' ps.length) := by
  refine fn_of lk hcd Sc (fun vs H Q E h => ?_) (fun A outer s H vs Q E hr h => ?_)
  · obtain ⟨_, _, _, _, _, _, _, _, h, _⟩ := h
    exact h
  · obtain ⟨t, ht, hx⟩ := hbody A outer s H E hr
    obtain ⟨F0, Hb, O, v0, vr, m, a, rfl, hl, k0, t0, hb, ho, r0, x0, q⟩ := h
    have R0 := start_relM (N := N) (ps := ps) k0 t0 hb ho r0 x0 (by rw [hl]; exact hN)
    refine ⟨t, ht, ?_⟩
    cases z : Fn m a with
    | none => rw [z] at q; exact q.elim
    | some w =>
      rw [z] at q
      have fin : ∀ {F H' σ e mm}, e[0]? = some (.ow (oAt v0 (ob' mm))) → RelS K Hb Hb F0 F H' σ e → ∃ Hb' O', Gr F0 F Hb Hb' ∧ (∀ a u, Hb' a = some u → H' a = some u) ∧ (∀ a u, O' a = some u → H' a = some u ∧ NX u ∧ Hb' a = none) ∧ (ob' mm).φ K F O' v0 := fun {F H' σ e mm} he R => by
        obtain ⟨Os, R⟩ := R
        obtain ⟨v, ev, rfl, y⟩ := R.sl 0 _ he
        obtain ⟨_, _, gr⟩ := R.rest 0 Dis.nil
        exact ⟨without H' (Os 0), Os 0, gr, fun a u e => (without_in e).1, fun a u e => ⟨(R.oh 0 a u e).1, (R.oh 0 a u e).2, without_none e⟩, y⟩
      refine hx m a v0 Hb w z Hb F0 F0 H _ R0 _ fun o p => ?_
      cases w with
      | nx m' =>
        obtain rfl := p
        intro F H' σ R
        obtain ⟨Hb', O', h1, h2, h3, h4⟩ := fin (hek v0 m') R
        exact q F Hb' H' O' h1 h2 h3 h4
      | rt r =>
        obtain ⟨r, m'⟩ := r
        obtain ⟨e2, rfl, wk⟩ := p
        intro F H' σ v R rv
        obtain ⟨Hb', O', h1, h2, h3, h4⟩ := fin (mm := m') (by rfl) (R.wk wk)
        exact q F Hb' H' O' h1 h2 h3 h4 v rv
      | ex c =>
        obtain ⟨e2, rfl, wk⟩ := p
        intro F H' σ R
        obtain ⟨Os, R⟩ := R.wk wk
        obtain ⟨v, ev, rfl, y⟩ := R.sl 0 _ (show _ = some (.ow (oAt v0 (ob m))) from rfl)
        obtain ⟨_, _, gr⟩ := R.rest 0 Dis.nil
        exact q F (without H' (Os 0)) H' (Os 0) gr (fun a u e => (without_in e).1) (fun a u e => ⟨(R.oh 0 a u e).1, (R.oh 0 a u e).2, without_none e⟩) y
      | bk s => exact q.elim
      | ct s => exact q.elim
end
end NM
/-! What is lent from within a map; a dict of one's own that is walked; objects that are made. -/
namespace NM
open PySem PySem.Spec PyProof.Rows L2
variable [Tbs]
section
variable {K : PySem.W.Frag} {B H0 F0 F H : Hp} {st : L2.St} {env : Env} {Os : Nat → Hp} {i j : Nat}
/-- a part of slot i's thing goes to slot j -/
theorem RelW.lend {x v' : V} {o1 o2 : Ow} {Oi Or : Hp} (R : RelW K B H0 F0 F H st env Os) (hij : i ≠ j) (hi : i < env.length) (hv : st[i]? = some (some x)) (d : Dis Oi Or (Os i)) (r1 : o1.φ K F Or x) (r2 : o2.φ K F Oi v') :
    RelW K B H0 F0 F H (st.set j (some v')) ((env.set i (.ow o1)).set j (.ow o2)) (re (re Os i Or) j Oi) := by
  have R1 := R.write (O' := Or) (H' := H) hi hv (fun _ _ => rfl) (fun a u e => ⟨u, d.r a u e⟩) (fun a u e => R.oh i a u (d.r a u e)) r1
  refine R1.setO (fun a u e => R.oh i a u (d.l a u e)) (fun a u e => R.of i a u (d.l a u e)) (fun k hk a u e => ?_) (fun a u e => R.oz i a u (d.l a u e)) r2
  by_cases q : k = i
  · rw [q, re_same]
    exact d.off a u e
  · rw [re_ne q]
    exact R.oo i k (Ne.symm q) a u (d.l a u e)
/-- .. and back -/
theorem RelW.take {x : V} {o : Ow} (R : RelW K B H0 F0 F H st env Os) (hij : i ≠ j) (hi : i < env.length) (hv : st[i]? = some (some x)) (r : o.φ K F (join (Os i) (Os j)) x) : RelS K B H0 F0 F H st ((env.set i (.ow o)).set j .un) := by
  have cs : ∀ a u, join (Os i) (Os j) a = some u → Os j a = some u ∨ Os i a = some u := fun a u e => (join_cases e).imp id (·.2)
  refine ⟨re (re Os j fun _ => none) i (join (Os i) (Os j)), R.gr, R.bn, by rw [List.length_set, List.length_set]; exact R.len, fun k s e => ?_, fun k l n => ?_, fun k => ?_, fun k => ?_, fun k a u e => ?_⟩
  · by_cases q : k = j
    · subst q
      obtain ⟨rfl, _⟩ := get_set_self e
      trivial
    · rw [List.getElem?_set_ne (Ne.symm q)] at e
      by_cases p : k = i
      · subst p
        obtain ⟨rfl, _⟩ := get_set_self e
        rw [re_same]
        exact ⟨x, hv, r⟩
      · rw [List.getElem?_set_ne (Ne.symm p)] at e
        rw [re_ne p, re_ne q]
        exact R.sl k s e
  · have off : ∀ m, m ≠ i → OffP (join (Os i) (Os j)) (re Os j (fun _ => none) m) := fun m hm a u e => by
      by_cases q : m = j
      · rw [q, re_same]
      · rw [re_ne q]
        rcases cs a u e with e | e
        · exact R.oo j m (Ne.symm q) a u e
        · exact R.oo i m (Ne.symm hm) a u e
    by_cases p : k = i
    · subst p
      rw [re_same, re_ne (Ne.symm n)]
      exact off l (Ne.symm n)
    · rw [re_ne p]
      by_cases q : l = i
      · subst q
        rw [re_same]
        exact (off k p).symm
      · rw [re_ne q]
        by_cases z : k = j
        · rw [z, re_same]
          exact fun a u e => nomatch e
        · rw [re_ne z]
          by_cases z2 : l = j
          · rw [z2, re_same]
            exact fun a u e => rfl
          · rw [re_ne z2]
            exact R.oo k l n
  · by_cases p : k = i
    · rw [p, re_same]
      intro a u e
      rcases cs a u e with e | e
      · exact R.of j a u e
      · exact R.of i a u e
    · rw [re_ne p]
      by_cases q : k = j
      · rw [q, re_same]
        exact fun a u e => nomatch e
      · rw [re_ne q]
        exact R.of k
  · by_cases p : k = i
    · rw [p, re_same]
      intro a u e
      rcases cs a u e with e | e
      · exact R.oz j a u e
      · exact R.oz i a u e
    · rw [re_ne p]
      by_cases q : k = j
      · rw [q, re_same]
        exact fun a u e => nomatch e
      · rw [re_ne q]
        exact R.oz k
  · by_cases p : k = i
    · rw [p, re_same] at e
      rcases cs a u e with e | e
      · exact R.oh j a u e
      · exact R.oh i a u e
    · rw [re_ne p] at e
      by_cases q : k = j
      · rw [q, re_same] at e
        cases e
      · rw [re_ne q] at e
        exact R.oh k a u e
end
/-- a map at v0 without its heads at n, which stand at v' -/
def oMapX (v0 v' : V) (n : Nat) (m : PMap) : Ow := ⟨fun K F O v => v = v0 ∧ (∀ F' Oi' (z : List (Str × Str)), Kn F F' → OffP Oi' O → (oM (eD eS z)).φ K F' Oi' v' → (oMap { m with heads := m.heads.set n z }).φ K F' (join O Oi') v) ∧ (bMapP m.points).φ K F O v,
  fun k ⟨a, b, c⟩ => ⟨a, fun F' Oi' z k' off h => b F' Oi' z (k.trans k') off h, (bMapP m.points).mono k (Kn.refl _) c⟩⟩
theorem oMapX_see {v0 v' : V} {n : Nat} {m : PMap} : Sees (oMapX v0 v' n m) (bMapP m.points) := fun K F O H v k ⟨_, _, c⟩ => (bMapP m.points).mono (Kn.refl _) k c
section
variable {σ ρ : Type} {K : PySem.W.Frag} {B : Hp} {env : Env} {i j : Nat} {ti : TE} {W : WX} {u t : TS} {ek : σ → Env} {er : RE ρ} {m : PMap} {v0 : V}
/-- the heads of a map at a size are taken out -/
theorem map_split {F O : Hp} {v : V} {n : Nat} (h : (oMap m).φ K F O v) (hn : n < m.heads.length) : ∃ p dx p1 p2 qs v' Oi Or, v = .ref p ∧ O p = some (.ins (He.ga K "Map") dx [("points", .ref p1), ("heads", .ref p2)]) ∧ O p2 = some (.lst qs) ∧ qs[n]? = some v' ∧ qs.length = m.heads.length ∧
    Dis Oi Or O ∧ (oM (eD eS (m.heads.getD n default))).φ K F Oi v' ∧ (bMapP m.points).φ K F Or v ∧
    ∀ F' Oi' (z : List (Str × Str)), Kn F F' → OffP Oi' Or → (oM (eD eS z)).φ K F' Oi' v' → (oMap { m with heads := m.heads.set n z }).φ K F' (join Or Oi') v := by
  obtain ⟨p, vs, u, R1, rfl, ⟨dx, rfl⟩, nx, d1, s⟩ := h
  match vs, s with
  | [w1, w2], ⟨O1, O2, d2, ⟨p1, ks1, e1, c1, r1⟩, O3, O4, d3, ⟨p2, qs, u2, R2, e2, e3, nx2, d4, s2⟩, s3⟩ =>
    subst e1 e2
    have e3 : u2 = .lst qs := e3
    subst e3
    have len := s2.length
    rw [List.length_map] at len
    obtain ⟨v', Oi, Or, h1, h2, h3, h4⟩ := s2.focus (k := n) (o := oDS (m.heads.getD n default)) (by rw [List.getElem?_map, List.getElem?_eq_getElem hn, List.getD_eq_getElem?_getD, List.getElem?_eq_getElem hn] <;> rfl)
    -- O = cell p ∪ (O1 ∪ (O3 ∪ O4)), O3 = cell p2 ∪ (Oi ∪ Or)
    have t4 : Dis R2 (cell p2 (.lst qs)) O3 := ⟨d4.r, d4.l, d4.off.symm, fun a u e => (d4.all a u e).symm⟩
    have t2 : Dis O2 O1 R1 := ⟨d2.r, d2.l, d2.off.symm, fun a u e => (d2.all a u e).symm⟩
    have t1 : Dis R1 (cell p (.ins (He.ga K "Map") dx (fsMap.zip [V.ref p1, V.ref p2]))) O := ⟨d1.r, d1.l, d1.off.symm, fun a u e => (d1.all a u e).symm⟩
    have a3 := h2.assoc t4
    have a4 := a3.assoc d3
    have a5 := a4.assoc t2
    have a6 := a5.assoc t1
    have np : NT (.ins (He.ga K "Map") dx (fsMap.zip [V.ref p1, V.ref p2])) := nt_ins
    have eO : O p = some (.ins (He.ga K "Map") dx [("points", .ref p1), ("heads", .ref p2)]) := d1.l p _ cell_at
    refine ⟨p, dx, p1, p2, qs, v', Oi, _, rfl, eO, d1.r _ _ (d2.r _ _ (d3.l _ _ (d4.l _ _ cell_at))), h1, len, a6, h3, ?_, fun F' Oi' z k off x => ?_⟩
    · have q6 : ∀ a u, join (cell p (.ins (He.ga K "Map") dx (fsMap.zip [V.ref p1, V.ref p2]))) (join O1 (join O4 (join (cell p2 (.lst qs)) Or))) a = some u → True := fun _ _ _ => trivial
      have cp : OffP O1 (cell p (.ins (He.ga K "Map") dx (fsMap.zip [V.ref p1, V.ref p2]))) := fun a u e => d1.off.symm a u (d2.l a u e)
      have e1' : (join (cell p (.ins (He.ga K "Map") dx (fsMap.zip [V.ref p1, V.ref p2]))) (join O1 (join O4 (join (cell p2 (.lst qs)) Or)))) p1 = some (.dK ks1) := by
        refine join_in ?_
        rw [join_out ?_]
        · exact c1
        · cases q : join O4 (join (cell p2 (.lst qs)) Or) p1 with
          | none => rfl
          | some w =>
            have z := a4.r p1 w q
            have := d2.off p1 _ c1
            rw [z] at this
            cases this
      have ep : (join (cell p (.ins (He.ga K "Map") dx (fsMap.zip [V.ref p1, V.ref p2]))) (join O1 (join O4 (join (cell p2 (.lst qs)) Or)))) p = some (.ins (He.ga K "Map") dx (fsMap.zip [V.ref p1, V.ref p2])) := by
        rw [join_out]
        · exact cell_at
        · cases q : join O1 (join O4 (join (cell p2 (.lst qs)) Or)) p with
          | none => rfl
          | some w =>
            have z := a5.r p w q
            have := d1.off p _ cell_at
            rw [z] at this
            cases this
      refine ⟨p, [.ref p1, .ref p2], _, _, rfl, ⟨dx, rfl⟩, nt_ins, ep, rfl, rfl, fun k b hb => ?_⟩
      match k, hb with
      | 0, hb =>
        cases hb
        exact ⟨_, rfl, p1, ks1, rfl, .inl e1', r1⟩
      | 1, hb =>
        cases hb
        exact ⟨_, rfl, trivial⟩
      | k + 2, hb => simp at hb
    · obtain ⟨o1, o2⟩ := off.of_join
      obtain ⟨o3, o4⟩ := o2.of_join
      obtain ⟨o5, o6⟩ := o4.of_join
      obtain ⟨o7, o8⟩ := o6.of_join
      have z1 := Dis.anew off fun a u e => d1.off.symm a u (a5.r a u e)
      have z2 := Dis.anew o2 fun a u e => t2.off a u (a4.r a u e)
      have z3 := Dis.anew o4 fun a u e => d3.off a u (a3.r a u e)
      have z4 := Dis.anew o6 fun a u e => t4.off a u (h2.r a u e)
      have fl : ∀ {A B C : Hp}, Dis A B C → Dis B A C := fun h => ⟨h.r, h.l, h.off.symm, fun a u e => (h.all a u e).symm⟩
      refine ⟨p, [.ref p1, .ref p2], _, _, rfl, ⟨dx, rfl⟩, nx, fl z1, O1, _, fl z2, ⟨p1, ks1, rfl, c1, r1.mono k⟩, _, O4, z3, ⟨p2, qs, _, _, rfl, rfl, nx2, fl z4, ?_⟩, ?_⟩
      · have y := h4 F' Oi' (oDS z) k o8 x
        rw [← List.map_set] at y
        exact y
      · exact SepL.mono k s3
theorem so_lendH {n : Int} {k : List (Str × Str) → Pg σ ρ} (cf : CF K "Map" "heads") (hij : i ≠ j) (h : env[i]? = some (.ow (oAt v0 (oMap m)))) (hi : Ev K B ti env (.im (.int n))) (c : 0 ≤ n ∧ n < m.heads.length ∧ m.heads.length ≤ sizeLine)
    (hu : ∀ v' d, Sq K B W u ((env.set i (.ow (oMapX v0 v' n.toNat m))).set j (.ow (oAt v' (oM (eD eS d))))) ek er (k d)) : Sq K B W (tSeq (tAsg (tOp (rIxL K) (tFld K (tVar i) "heads") ti) (gName j)) u) env ek er (lt (m.heads.getD n.toNat default) k) := fun o e => by
  refine sx_seq fun H0 F0 F H st ⟨Os, R⟩ D q => ?_
  obtain ⟨c0, c1, c2⟩ := c
  have hn : n.toNat < m.heads.length := by omega
  obtain ⟨v, ev, rfl, y⟩ := R.sl i _ h
  obtain ⟨p, dx, p1, p2, qs, v', Oi, Or, rfl, e1, e2, e3, len, d, y1, y2, bk⟩ := map_split y hn
  refine ⟨.ref p, ev, p, _, dx, _, .ref p2, rfl, (R.oh i p _ e1).1, cf.c, cf.n, rfl, ?_⟩
  refine hi F H st R.e _ fun yv F2 H2 g2 ry => ?_
  obtain rfl := Rp.inv_int ry
  have R2 := R.step g2
  refine ⟨p2, qs, n, v', rfl, rfl, .inl (.inl (R2.oh i p2 _ e2).1), by rw [atI_of c0 (by omega)]; exact e3, ?_⟩
  exact q (.nx _) (hu v' _ o e) F2 H2 _ ⟨_, R2.lend hij (List.getElem?_eq_some_iff.mp h).1 ev d ⟨rfl, fun F' Oi' z k off x => bk F' Oi' z (g2.fk.trans k) off x, (bMapP m.points).mono g2.fk (Kn.refl _) y2⟩ ⟨rfl, (oM _).mono g2.fk y1⟩⟩
/-- .. and put back -/
theorem so_backH {n : Nat} {v' : V} {d : List (Str × Str)} {k : PMap → Pg σ ρ} (i j : Nat) (hij : i ≠ j) (h : env[i]? = some (.ow (oMapX v0 v' n m))) (h2 : env[j]? = some (.ow (oAt v' (oM (eD eS d)))))
    (hu : ∀ m, Sq K B W t ((env.set i (.ow (oAt v0 (oMap m)))).set j .un) ek er (k m)) : Sq K B W t env ek er (lt { m with heads := m.heads.set n d } k) := fun o e => fun H0 F0 F H st ⟨Os, R⟩ D q => by
  obtain ⟨v, ev, rfl, bk, _⟩ := R.sl i _ h
  obtain ⟨w, ew, rfl, y⟩ := R.sl j _ h2
  exact hu _ o e H0 F0 F H st (R.take hij (List.getElem?_eq_some_iff.mp h).1 ev ⟨rfl, bk F (Os j) d (Kn.refl _) (R.oo j i (Ne.symm hij)) y⟩) D q
end
/-! ### a dict of one's own is walked -/
def quiet {σ ρ : Type} : Pg σ ρ → Pg σ ρ
  | some (.rt _) => none
  | some (.ex _) => none
  | m => m
section
variable {α σ ρ : Type} {K : PySem.W.Frag} {B : Hp} {env : Env} {W : WX} {g : TG} {ek : σ → Env} {er : RE ρ}
theorem ed_own {i : Nat} {o : Ow} {kvs : List (Str × D)} (h : env[i]? = some (.ow o)) (s : Sees o (oB (.dct kvs))) : EvD0 K B (tVar i) env kvs := fun F H st R => by
  obtain ⟨v, O, e, k, x⟩ := R.sl i _ h
  obtain ⟨p, ks, rfl, rd, rk⟩ := s _ _ _ _ _ k x
  exact ⟨p, ks, rk, rd, fun H' R' Q q => ⟨_, e, q⟩⟩
theorem so_forKO {f : α → D} {kvs : List (Str × α)} {w : V} (j : Nat) (ts : Str → List D) {js : List Nat} {tb : WX → TS} {step : Str → σ → Pg σ ρ} {s0 : σ} (hj : ∀ s, (ek s)[j]? = some (.ow (oAt w (oM (eD f kvs))))) (hg : ∀ x : Str, EvG K g js (.str x) (ts x))
    (hb : ∀ W od ks x, x ∈ kvs.map (·.1) → ∀ s, Sq K B W (tb W) (setD ((ek s).set j (.ow (oFz od w ks (eD f kvs)))) js (ts x)) (fun s => (ek s).set j (.ow (oFz od w ks (eD f kvs)))) er (step x s)) (he : env = ek s0) :
    Sq K B W (tLkX W fun W => tFor (iKeys (tVar j)) g (tb W)) env ek er (forO (fun x s => quiet (step x s)) (kvs.map (·.1)) s0) := fun o e => by
  subst he
  intro H0 F0 F H st ⟨Os, R⟩ D q
  obtain ⟨v, ev, e0, l, ks, e1, hO, r⟩ := R.sl j _ (hj s0)
  subst e0
  have hH := (R.oh j l _ hO).1
  refine .inl ⟨l, .dK ks, hH, trivial, fun od => ?_⟩
  have jl : ∀ s, j < (ek s).length := fun s => (List.getElem?_eq_some_iff.mp (hj s)).1
  obtain ⟨w1, w2, w3⟩ := cellF (Oj := Os j) (w' := .frz od (.dK ks)) hO (fun a u e => R.oh j a u e) nx_frz
  have R1 : RelS K B H0 F0 F (upd H l (.frz od (.dK ks))) st ((ek s0).set j (.ow (oFz od v ks (eD f kvs)))) := ⟨_, R.write (O' := upd (Os j) l (.frz od (.dK ks))) (jl s0) ev w1 w2 w3 ⟨rfl, l, _, e1, rfl, upd_same, r⟩⟩
  have un : ∀ {F2 H2 st2 s}, RelS K B H0 F0 F2 H2 st2 ((ek s).set j (.ow (oFz od v ks (eD f kvs)))) → H2 l = some (.frz od (.dK ks)) ∧ RelS K B H0 F0 F2 (upd H2 l (.dK ks)) st2 (ek s) := fun {F2 H2 st2 s} ⟨Os2, R2⟩ => by
    obtain ⟨v2, ev2, e2, l2, kvs2, e3, e4, hO2, r2⟩ := R2.sl j _ (List.getElem?_set_self (jl s))
    subst e2
    rw [e1] at e3
    cases e3
    cases e4
    obtain ⟨y1, y2, y3⟩ := cellF (Oj := Os2 j) (w' := .dK ks) hO2 (fun a u e => R2.oh j a u e) nx_dK
    refine ⟨(R2.oh j l _ hO2).1, ?_⟩
    have z := R2.write (o := oAt v2 (oM (eD f kvs))) (O' := upd (Os2 j) l (.dK ks)) (by rw [List.length_set]; exact jl s) ev2 y1 y2 y3 ⟨rfl, l, ks, e1, upd_same, r2⟩
    rw [List.set_set] at z
    have e5 : (ek s).set j (.ow (oAt v2 (oM (eD f kvs)))) = ek s := by
      obtain ⟨h1, h2⟩ := List.getElem?_eq_some_iff.mp (hj s)
      rw [← h2]
      exact List.set_getElem_self h1
    rw [e5] at z
    exact ⟨_, z⟩
  have rk : RpK K F ks (emap f kvs) := r
  have yld : ∀ {i : Nat} {ky : Key} {v : V}, ks[i]? = some (ky, v) → ∃ s, (kvs.map (·.1))[i]? = some s ∧ kV ky = .str s := fun hk => by
    obtain ⟨s, dd, h1, rfl, _⟩ := rk.getI hk
    rw [List.getElem?_map] at h1
    obtain ⟨p, hp, e⟩ := Option.map_eq_some_iff.mp h1
    cases e
    exact ⟨p.1, by rw [List.getElem?_map, hp] <;> rfl, rfl⟩
  have lenK : ks.length = kvs.length := by rw [rk.length, List.length_map]
  refine ⟨v, ev, l, od, e1, .inl ⟨ks, upd_same, ?_⟩⟩
  refine for_it walk_keys (fun i st1 H2 => ∃ s F1, forO (fun x s => quiet (step x s)) ((kvs.map (·.1)).drop i) s = some o ∧ RelS K B H0 F0 F1 H2 st1 ((ek s).set j (.ow (oFz od v ks (eD f kvs))))) ⟨s0, F, e, R1⟩ ?_ ?_ ?_
  · intro i st1 H2 _ ⟨s, F1, _, R2⟩
    exact (un R2).1
  · intro i x st1 H2 H3 hi ⟨s, F1, hs, R2⟩ y
    obtain ⟨rfl, ky, v3, hk, rfl⟩ := y
    obtain ⟨z, hz, ez⟩ := yld hk
    obtain ⟨hi2, hx'⟩ := List.getElem?_eq_some_iff.mp hz
    obtain ⟨us, ru, kg⟩ := hg z F1 H3 (kV ky) R2.e.kn (by rw [ez]; exact .str z)
    refine kg st1 _ ?_
    rw [List.drop_eq_getElem_cons hi2, hx'] at hs
    unfold forO at hs
    cases qs : step z s with
    | none => rw [qs] at hs; cases hs
    | some w' =>
      rw [qs] at hs
      refine hb _ od ks z (List.mem_of_getElem? hz) s w' qs H0 F0 F1 H3 _ (R2.sets ru) _ fun o' p => ?_
      cases w' with
      | nx s' => obtain rfl := p; exact fun F3 H4 st3 R3 => ⟨s', F3, hs, R3⟩
      | ct s' => obtain rfl := p; exact fun F3 H4 st3 R3 => ⟨s', F3, hs, R3⟩
      | bk s' =>
        obtain rfl := p
        cases hs
        exact fun F3 H4 st3 R3 => ⟨(un R3).1, q (.nx (ek s')) rfl F3 _ st3 (un R3).2⟩
      | rt r => cases hs
      | ex c => cases hs
  · intro st1 H2 ⟨s, F1, hs, R2⟩
    have z : (kvs.map (·.1)).drop ks.length = [] := by rw [lenK]; exact List.drop_eq_nil_of_le (by rw [List.length_map]; exact Nat.le_refl _)
    rw [z] at hs
    cases hs
    exact ⟨(un R2).1, q (.nx (ek s)) rfl F1 _ st1 (un R2).2⟩
end
end NM
/-! Methods that only look, objects that are made, attributes that are set. -/
namespace NM
open PySem PySem.Spec PyProof.Rows L2
variable [Tbs]
/-! ### methods that only look -/
def tMtA (C : Addr) (m : Str) (ta : TE) (t : TA) : TA := fun σ H Q => ta σ H fun x H1 => ∃ a dx fs, x = .ref a ∧ H1 a = some (.ins C dx fs) ∧ fs.lookup m = none ∧ t σ H1 fun vs H2 => Q (x :: vs) H2
/-- b is seen only of objects of the class C without a field mm -/
def ObjB (K : PySem.W.Frag) (b : Ob) (C : Addr) (mm : Str) : Prop := ∀ F H v, b.φ K F H v → ∃ a dx fs, v = .ref a ∧ H a = some (.ins C dx fs) ∧ fs.lookup mm = none
theorem objB_nd {K : PySem.W.Frag} {C mm : Str} {fs : List Str} {bs : List Ob} (h : mm ∉ fs) : ObjB K (bNd (mkI C fs) bs) (He.ga K C) mm := fun F H v ⟨p, vs, u, u', e, ⟨dx, hu⟩, n, e1, e2, _⟩ => by
  subst hu
  rw [lk_ins e2] at e1
  exact ⟨p, dx, _, e, e1, lookup_zip_none h⟩
theorem objC_nd {K : PySem.W.Frag} {C mm : Str} {fs : List Str} {os : List Ow} (h : mm ∉ fs) : ObjC K (oNd (mkI C fs) os) (He.ga K C) mm := fun F O v ⟨p, vs, u, Or, e, ⟨dx, hu⟩, n, d, _⟩ => by
  subst hu
  exact ⟨p, dx, _, e, d.l p _ cell_at, lookup_zip_none h⟩
section
variable {σ ρ α ρ' : Type} {K : PySem.W.Frag} {B : Hp} {env : Env} {td te : TE} {tt : TA} {W : WX} {u : TS} {ek : σ → Env} {er : RE ρ} {F : α → Pg Unit ρ'} {en : α → List Vl} {er' : ρ' → Vl} {n i : Nat} {C : Addr} {mm : Str} {b : Ob}
theorem ea_mt {rs : List Vl} (hb : ObjB K b C mm) (h : Ev K B td env (.lo b)) (ha : EvA K B tt env rs) : EvA K B (tMtA C mm td tt) env (.lo b :: rs) := fun F H σ R Q q =>
  h F H σ R _ fun x F1 H1 g1 x1 => by
    obtain ⟨a, dx, fs, e1, e2, e3⟩ := hb F1 H1 x x1
    exact ⟨a, dx, fs, e1, e2, e3, ha F1 H1 σ (R.step g1) _ fun y F2 H2 g2 y2 => q (x :: y) F2 H2 (g1.trans g2) (.cons (VlOk.step (r := .lo b) g2 x1) (y2.back g1.mo))⟩
theorem so_meth {k : Pg σ ρ} (a : α) (hb : ObjB K b C mm) {rs : List Vl} (e : en a = .lo b :: rs) (hd : Ev K B td env (.lo b)) (h : EvA K B tt env rs) (f : ∀ r ∈ en a, Flat r) (hn : (en a).length = n) (w : Wk env er.xe) (hu : Sq K B W u env ek er k) :
    Sq K B W (tSeq (tDrop (tMt C mm (spX K (SF F en er' K) n) (WE W) td tt)) u) env ek er (callN (F a) k) := so_call (tt := tMtA C mm td tt) a (by rw [e]; exact ea_mt hb hd h) f hn w hu
theorem so_asgMeth {enr : ρ' → D} {k : ρ' → Pg σ ρ} (a : α) (hb : ObjB K b C mm) {rs : List Vl} (e : en a = .lo b :: rs) (her : ∀ r, er' r = .im (enr r)) (hd : Ev K B td env (.lo b)) (h : EvA K B tt env rs) (f : ∀ r ∈ en a, Flat r) (hn : (en a).length = n) (w : Wk env er.xe) (hu : ∀ r, Sq K B W u (env.set i (.im (enr r))) ek er (k r)) :
    Sq K B W (tSeq (tAsg (tMt C mm (spX K (SF F en er' K) n) (WE W) td tt) (gName i)) u) env ek er (callO (F a) k) := so_asgCall (tt := tMtA C mm td tt) a her (by rw [e]; exact ea_mt hb hd h) f hn w hu
theorem so_retMeth {k : ρ' → ρ} (a : α) (hb : ObjB K b C mm) {rs : List Vl} (e : en a = .lo b :: rs) (her : ∀ r, er' r = er.er (k r)) (hb2 : ∀ r, Back (er' r)) (hd : Ev K B td env (.lo b)) (h : EvA K B tt env rs) (f : ∀ r ∈ en a, Flat r) (hn : (en a).length = n) (w : Wk env er.xe) (wr : ∀ r, Wk env (er.xr r)) :
    Sq K B W (tSeq (tRet (tMt C mm (spX K (SF F en er' K) n) (WE W) td tt)) u) env ek er (callO (F a) fun r => some (.rt (k r))) := so_retCall (tt := tMtA C mm td tt) a her hb2 (by rw [e]; exact ea_mt hb hd h) f hn w wr
theorem ev_callS {E : L2.St → XK} {rs : List Vl} {r : Vl} {S : List Vl → Res → Prop} (h : EvA K B tt env rs) (f : ∀ r ∈ rs, Flat r) (s : S rs (.ok r)) (b : Back r) (hn : rs.length = n) : Ev K B (tCallS (spX K S n) E tt) env r := fun F H σ R Q q =>
  h F H σ R _ fun vs F' H' g x => by
    refine ⟨F', rs, .ok r, by rw [x.length]; exact hn, g.kn, (R.bn.step g).tb, x.flat f, s, fun v F2 H2 g2 y => q v F2 H2 (g.trans g2) ((y.back' b).back g.mo)⟩
theorem v_meth {E : L2.St → XK} {enr : ρ' → D} [Inhabited ρ'] (a : α) (c : IsRt (F a)) (hb : ObjB K b C mm) {rs : List Vl} (e : en a = .lo b :: rs) (her : ∀ r, er' r = .im (enr r)) (hd : Ev K B td env (.lo b)) (h : EvA K B tt env rs) (f : ∀ r ∈ en a, Flat r) (hn : (en a).length = n) :
    Ev K B (tMt C mm (spX K (SF F en er' K) n) E td tt) env (.im (enr (valO (F a)))) := by
  have s := SF.rt (er := er') (en := en) (K := K) a _ (valO_rt c)
  rw [her] at s
  exact ev_callS (rs := en a) (tt := tMtA C mm td tt) (by rw [e]; exact ea_mt hb hd h) f s trivial hn
theorem v_methW {E : L2.St → XK} {enr : ρ' → Ow} [Inhabited ρ'] (a : α) (c : IsRt (F a)) (hb : ObjB K b C mm) {rs : List Vl} (e : en a = .lo b :: rs) (her : ∀ r, er' r = .nw (enr r)) (hd : Ev K B td env (.lo b)) (h : EvA K B tt env rs) (f : ∀ r ∈ en a, Flat r) (hn : (en a).length = n) :
    Ev K B (tMt C mm (spX K (SF F en er' K) n) E td tt) env (.nw (enr (valO (F a)))) := by
  have s := SF.rt (er := er') (en := en) (K := K) a _ (valO_rt c)
  rw [her] at s
  exact ev_callS (rs := en a) (tt := tMtA C mm td tt) (by rw [e]; exact ea_mt hb hd h) f s trivial hn
theorem v_toldMt {enr : ρ' → D} {cs : List Str} (a : α) (c : Told cs (F a)) (hb : ObjB K b C mm) {rs : List Vl} (e : en a = .lo b :: rs) (her : ∀ r, er' r = .im (enr r)) (hd : Ev K B td env (.lo b)) (h : EvA K B tt env rs) (f : ∀ r ∈ en a, Flat r) (hn : (en a).length = n) :
    Ev K B (tTold Tbs.T (wsOf K (cs.map fun x => (x, He.ga K x))) fun E => tMt C mm (spX K (SF F en er' K) n) (fun _ => E) td tt) env (.im (toldD enr (F a))) := by
  have ha : EvA K B (tMtA C mm td tt) env (en a) := by rw [e]; exact ea_mt hb hd h
  have z := v_told (F := F) (er' := er') a c her ha f hn
  intro F H σ R Q q
  have z2 := z F H σ R Q q
  unfold tTold at z2 ⊢
  refine ⟨z2.1, fun H1 e1 e2 => ?_⟩
  have z3 := z2.2 H1 e1 e2
  simp only [tCall, List.append_nil] at z3
  exact z3
end
/-! ### defs of a class -/
section
variable {P : Program} {w : World} {K : PySem.W.Frag} {mg : Str → Option Value} {base : Heap}
theorem meth_okF {m qual : Str} {st : Stmt} {C f : Addr} {fd : FuncData} {N ps : List Str} {k : Nat} {S : List Vl → Res → Prop} (F : FunD K m qual (defArgs st) (defBody st) (defScope st) [] [] f fd) (Sc : FnScope N ps (defScope st)) (hm : Meth K C m f)
    (hb : ∀ (kV doc pm : Value) (an : Option Addr) (cdv ct : Value) (us : List Value), us.length = ps.length → bindArgs (PySem.W.fnOf m qual (defArgs st) (defBody st) (defScope st) .none kV doc pm an cdv ct) ⟨us, []⟩ = pure (ps.zip us))
    (hN : ps.length ≤ N.length)
    (hbody : ∀ (cdv : Value) (A : Around) (outer : List PySem.Env) (s : Shared) (H : Hp) (E : XK), Room k (A.deeper (envOfC qual (defScope st) s.heap.objs.size f cdv)) →
      ∃ t, PSs (cxOf (L2N.CX P w) P w K mg base N qual (defScope st) f cdv A outer s H E) (defBody st) t ∧
        ∀ rs res, rs.length = ps.length → S rs res → ∀ B, Sx K B (fun cls d _ H => E cls d H) t (rs.map toSl ++ List.replicate (N.length - rs.length) .un) (endP res)) :
    MethAt P w K mg base (k + 1) C m ps (spX K S ps.length) := by
  refine ⟨f, fd, hm, F.bindsN hb, ?_⟩
  obtain ⟨oc, od, dV, kV, doc, pm, an, cdv, ct, osl, rfl, lk, hcd, _, _⟩ := F.ex
  exact fn_okC lk hcd Sc hN (hbody cdv)
section
variable {α M M' ρ : Type} {Fn : M → α → Pg M' (ρ × M')} {en : α → List D} {er : ρ → D} {ob : M → Ow} {ob' : M' → Ow}
theorem meth_okM {m qual : Str} {st : Stmt} {C f : Addr} {fd : FuncData} {N ps : List Str} {k : Nat} (F : FunD K m qual (defArgs st) (defBody st) (defScope st) [] [] f fd) (Sc : FnScope N ps (defScope st)) (hm : Meth K C m f)
    (hb : ∀ (kV doc pm : Value) (an : Option Addr) (cdv ct : Value) (us : List Value), us.length = ps.length → bindArgs (PySem.W.fnOf m qual (defArgs st) (defBody st) (defScope st) .none kV doc pm an cdv ct) ⟨us, []⟩ = pure (ps.zip us))
    (hN : ps.length ≤ N.length) (ek : V → M' → Env) (hek : ∀ v0 m, (ek v0 m)[0]? = some (.ow (oAt v0 (ob' m)))) (hlen : ∀ a, (en a).length + 1 = ps.length)
    (hbody : ∀ (cdv : Value) (A : Around) (outer : List PySem.Env) (s : Shared) (H : Hp) (E : XK), Room k (A.deeper (envOfC qual (defScope st) s.heap.objs.size f cdv)) →
      ∃ t, PSs (cxOf (L2N.CX P w) P w K mg base N qual (defScope st) f cdv A outer s H E) (defBody st) t ∧
        ∀ m a v0 B, Sq K B (fun cls d _ H => E cls d H) t (.ow (oAt v0 (ob m)) :: ((en a).map .im ++ List.replicate (N.length - ((en a).length + 1)) .un)) (ek v0) (reM (N.length - 1) er v0 (ob m) ob') (Fn m a)) :
    MethAt P w K mg base (k + 1) C m ps (spM K Fn en er ob ob' ps.length) := by
  refine ⟨f, fd, hm, F.bindsN hb, ?_⟩
  obtain ⟨oc, od, dV, kV, doc, pm, an, cdv, ct, osl, rfl, lk, hcd, _, _⟩ := F.ex
  exact fn_okM lk hcd Sc hN ek hek hlen (hbody cdv)
theorem fn_okMF {x qual : Str} {st : Stmt} {f : Addr} {fd : FuncData} {N ps : List Str} {k : Nat} (F : FunD K x qual (defArgs st) (defBody st) (defScope st) [] [] f fd) (Sc : FnScope N ps (defScope st)) (hm : mg x = some (.ref f))
    (hb : ∀ (kV doc pm : Value) (an : Option Addr) (cdv ct : Value) (us : List Value), us.length = ps.length → bindArgs (PySem.W.fnOf x qual (defArgs st) (defBody st) (defScope st) .none kV doc pm an cdv ct) ⟨us, []⟩ = pure (ps.zip us))
    (hN : ps.length ≤ N.length) (ek : V → M' → Env) (hek : ∀ v0 m, (ek v0 m)[0]? = some (.ow (oAt v0 (ob' m)))) (hlen : ∀ a, (en a).length + 1 = ps.length)
    (hbody : ∀ (cdv : Value) (A : Around) (outer : List PySem.Env) (s : Shared) (H : Hp) (E : XK), K.lookup f = K.lookup f → Room k (A.deeper (envOfC qual (defScope st) s.heap.objs.size f cdv)) →
      ∃ t, PSs (cxOf (L2N.CX P w) P w K mg base N qual (defScope st) f cdv A outer s H E) (defBody st) t ∧
        ∀ m a v0 B, Sq K B (fun cls d _ H => E cls d H) t (.ow (oAt v0 (ob m)) :: ((en a).map .im ++ List.replicate (N.length - ((en a).length + 1)) .un)) (ek v0) (reM (N.length - 1) er v0 (ob m) ob') (Fn m a)) :
    FnAt P w K mg base (k + 1) x ps (spM K Fn en er ob ob' ps.length) := by
  refine ⟨f, fd, hm, F.kp, F.bindsN hb, ?_⟩
  obtain ⟨oc, od, dV, kV, doc, pm, an, cdv, ct, osl, rfl, lk, hcd, _, _⟩ := F.ex
  exact fn_okM lk hcd Sc hN ek hek hlen fun A outer s H E hr => hbody cdv A outer s H E rfl hr
end
/-- a class that is made by an __init__ without arguments that keeps the promise sp -/
structure MkAt (P : Program) (w : World) (K : PySem.W.Frag) (mg : Str → Option Value) (base : Heap) (k : Nat) (C : Str) (sp : Sp) : Prop where
  ex : ∃ (f : Addr) (fd : FuncData), mg C = some (.ref (He.ga K C)) ∧ Mk K (He.ga K C) f ∧ L2.Binds K fd ["self"] [] ∧ FnOk P w K mg base (L2N.CX P w) k f fd ["self"] sp
theorem mk_of {k : Nat} {C : Str} {sp : Sp} (h : MethAt P w K mg base k (He.ga K C) "__init__" ["self"] sp) (hm : mg C = some (.ref (He.ga K C))) {f : Addr} (m : Mk K (He.ga K C) f) : MkAt P w K mg base k C sp := by
  obtain ⟨g, fd, h1, h2, h3⟩ := h.ex
  have e := h1.at_.symm.trans m.init
  have e : g = f := by
    have e := Option.some.inj (Option.some.inj e)
    cases e
    rfl
  subst e
  exact ⟨g, fd, hm, m, h2, h3⟩
end
section
variable {X : Cx} {k j : Nat} {C : Str} {sp : Sp} {p pos : Pos}
theorem pe_mk {j : Nat} (F : MkAt X.prog X.w X.K X.mg X.base k C sp) (hr : Room j X.A) (hk : k + 1 ≤ j) (hg : Gl X C) (hdb : (C == ("__debug__" : Str)) = false := by decide) : PE X (.Call (.Name C p) [] [] pos) (tMake (He.ga X.K C) sp [] E0 tNil) := by
  obtain ⟨f, fd, hm, m, hb, F⟩ := F.ex
  exact pe_make0 (ds := []) m F (hr.mono hk) hg hm hb .nil passL hdb
end
/-! ### objects that are made -/
/-- a new object -/
abbrev oRaw (C : Str) : Unit → Ow := fun _ => oNd (mkI C []) []
section
variable {K : PySem.W.Frag} {B : Hp} {env : Env} {M ρ : Type} [Inhabited M] {Fn : Unit → Unit → Pg M (ρ × M)} {er : ρ → D} {ob' : M → Ow} {C : Str} {E : XK}
theorem v_make (c : IsNx (Fn () ())) : Ev K B (tMake (He.ga K C) (spM K Fn (fun _ : Unit => []) er (oRaw C) ob' 1) [] E tNil) env (.nw (ob' (nxO (Fn () ())))) := fun F H σ R Q q => by
  show ∀ x dx, H x = none → H dx = none → dx ≠ x → _
  intro x dx hx hdx ne
  have g1 : Gr F F H (upd H dx (.own x)) := Gr.new R.kn hdx
  have hxx : upd H dx (.own x) x = none := by rw [upd_ne (Ne.symm ne)]; exact hx
  refine ⟨F, upd H dx (.own x), cell x (.ins (He.ga K C) dx []), .ref x, [], (), (), rfl, rfl, g1.kn, (R.bn.step g1).tb, fun a u e => ?_, fun a u e => ?_, .nil, ⟨x, [], _, fun _ => none, rfl, ⟨dx, rfl⟩, nx_ins, Dis.nil, trivial⟩, ?_⟩
  · rw [upd_ne (ne_of_none e hxx)]
    exact e
  · obtain ⟨rfl, rfl⟩ := of_cell e
    exact ⟨upd_same, nx_ins, hxx⟩
  · rw [nxO_nx c]
    intro F' Hb' H' O' g hb ho y
    have g2 := g1.trans g
    have tbH : LamX.Tabs Tbs.T Hb' → LamX.Tabs Tbs.T H' := tabs_of fun a u _ e => hb a u e
    refine ⟨rfl, q _ F' H' ⟨g2.ff, g2.fr, fun a u n e => hb a u (g2.hh a u n e), fun t => tbH (g2.tb t), fun a u n e => ?_⟩ ⟨O', fun a u e => ⟨(ho a u e).1, (ho a u e).2.1⟩, fun a u e w n z => ?_, fun a u e w n z => ?_, y⟩⟩
    · obtain ⟨u', e1, e2⟩ := g2.kn a u n e
      exact ⟨u', hb a u' e1, e2⟩
    · obtain ⟨u', e1, _⟩ := g2.kn a w n z
      rw [(ho a u e).2.2] at e1
      cases e1
    · have := g2.hh a w n z
      rw [(ho a u e).2.2] at this
      cases this
end
/-! ### attributes that are set -/
section
variable {σ ρ α : Type} {K : PySem.W.Frag} {B : Hp} {env : Env} {td tv : TE} {W : WX} {u : TS} {ek : σ → Env} {er : RE ρ} {C f : Str} {fs : List Str} {os : List Ow} {i : Nat} {v0 : V}
theorem SepL.snoc {F : Hp} : ∀ {os : List Ow} {O On : Hp} {vs : List V} {o : Ow} {y : V}, SepL K F os O vs → OffP On O → o.φ K F On y → SepL K F (os ++ [o]) (join O On) (vs ++ [y])
  | [], O, On, [], o, y, _, off, h => ⟨On, O, Dis.mkJ off, h, trivial⟩
  | [], _, _, _ :: _, _, _, h, _, _ => h.elim
  | _ :: _, _, _, [], _, _, h, _, _ => h.elim
  | o1 :: os, O, On, v :: vs, o, y, ⟨O1, O2, d, h, r⟩, off, x => by
    have d' : Dis O2 O1 O := ⟨d.r, d.l, d.off.symm, fun a u e => (d.all a u e).symm⟩
    have off1 : OffP On (join O1 O2) := by rw [← d'.eq]; exact off
    obtain ⟨_, off2⟩ := off1.of_join
    have z := Dis.anew off1 d'.off
    rw [← d'.eq] at z
    exact ⟨O1, join O2 On, ⟨z.r, z.l, z.off.symm, fun a u e => (z.all a u e).symm⟩, h, SepL.snoc r off2 x⟩
theorem putF_new {f : Str} {y : V} : ∀ {fs : List Str} {vs : List V}, f ∉ fs → vs.length = fs.length → putF f y (fs.zip vs) = (fs ++ [f]).zip (vs ++ [y])
  | [], [], _, _ => rfl
  | [], _ :: _, _, h => by cases h
  | _ :: _, [], _, h => by cases h
  | x :: fs, v :: vs, h, l => by
    have ne : x ≠ f := fun z => h (by rw [z]; exact List.mem_cons_self)
    show (if x = f then _ else _) = (x, v) :: _
    rw [if_neg ne]
    exact congrArg ((x, v) :: ·) (putF_new (fun z => h (List.mem_cons_of_mem _ z)) (by simpa using l))
/-- self.f = a new thing, f not yet there -/
theorem so_attrN {a : α} {on : α → Ow} {k : α → Pg σ ρ} (cf : CF K C f) (hf : f ∉ fs) (hl : fs.length < 1000) (hos : os.length = fs.length) (h : env[i]? = some (.ow (oAt v0 (oNd (mkI C fs) os)))) (hv : Ev K B tv env (.nw (on a)))
    (hu : ∀ x, Sq K B W u (env.set i (.ow (oAt v0 (oNd (mkI C (fs ++ [f])) (os ++ [on x]))))) ek er (k x)) : Sq K B W (tSeq (sFld K (tVar i) tv f) u) env ek er (lt a k) := fun o e => by
  refine sx_seq fun H0 F0 F H st ⟨Os, R⟩ D q => ?_
  refine hv F H st R.e _ fun y F1 H1 g1 ⟨On, n1, n2, n3, n4⟩ => ?_
  have R1 := R.step g1
  obtain ⟨v, ev, rfl, p, vs, w, Or, rfl, ⟨dx, rfl⟩, nx, d, s⟩ := R1.sl i _ h
  have len := s.length
  have hp := (R1.oh i p _ (d.l p _ cell_at)).1
  have offO : ∀ j, OffP On (Os j) := fun j a u e => by
    cases z : Os j a with
    | none => rfl
    | some w =>
      obtain ⟨q1, q2⟩ := R.oh j a w z
      exact absurd q1 (n3 a u e w q2.1)
  have kn := R1.gr.kn
  refine ⟨.ref p, ev, p, _, dx, _, rfl, hp, cf.c, cf.n, by rw [List.length_zip]; omega, ?_⟩
  have hi := (List.getElem?_eq_some_iff.mp h).1
  -- first the cell is written, then the new part is added
  obtain ⟨w1, w2, w3⟩ := cellF (Oj := Or) (H := H1) (w' := .ins (He.ga K C) dx (putF f y (fs.zip vs))) (d.l p _ cell_at) (fun a u e => R1.oh i a u e) nx_ins
  have R2 := R1.write (o := ⟨fun _ _ _ _ => True, fun _ _ => trivial⟩) (O' := upd (Os i) p (.ins (He.ga K C) dx (putF f y (fs.zip vs)))) hi ev w1 w2 w3 trivial
  have np : ∀ a u, On a = some u → a ≠ p := fun a u e z => by
    have := offO i a u e
    rw [z, d.l p _ cell_at] at this
    cases this
  have R3 := R2.setO (v := .ref p) (o := oAt (.ref p) (oNd (mkI C (fs ++ [f])) (os ++ [on a]))) (i := i) (O := join (upd (Os i) p (.ins (He.ga K C) dx (putF f y (fs.zip vs)))) On) (fun a u e => ?_) (fun a u e => ?_) (fun j hj a u e => ?_) (fun a u e => ?_) ⟨rfl, ?_⟩
  · rw [List.set_set] at R3
    have e3 : st.set i (some (.ref p)) = st := by
      obtain ⟨h1, h2⟩ := List.getElem?_eq_some_iff.mp ev
      rw [← h2]
      exact List.set_getElem_self h1
    rw [e3] at R3
    exact q (.nx _) (hu a o e) F1 _ st ⟨_, R3⟩
  · rcases join_cases e with e | ⟨_, e⟩
    · rw [upd_ne (np a u e)]
      exact n1 a u e
    · exact w3 a u e
  · rcases join_cases e with e | ⟨_, e⟩
    · exact n2 a u e
    · obtain ⟨w, e⟩ := w2 a u e
      exact R1.of i a w e
  · rw [re_ne hj]
    rcases join_cases e with e | ⟨_, e⟩
    · exact offO j a u e
    · obtain ⟨w, e⟩ := w2 a u e
      exact R1.oo i j (Ne.symm hj) a w e
  · rcases join_cases e with e | ⟨_, e⟩
    · exact fun w n z => n3 a u e w n (R.gr.hh a w n z)
    · obtain ⟨w, e⟩ := w2 a u e
      exact R1.oz i a w e
  · have offR : OffP On Or := fun a u e => (d.out (offO i a u e)).2
    have d2 : Dis (cell p (.ins (He.ga K C) dx (putF f y (fs.zip vs)))) Or (upd (Os i) p (.ins (He.ga K C) dx (putF f y (fs.zip vs)))) := by
      refine ⟨fun a u e => ?_, fun a u e => ?_, fun a u e => ?_, fun a u e => ?_⟩
      · obtain ⟨rfl, rfl⟩ := of_cell e
        exact upd_same
      · rw [upd_ne fun z => ?_]
        · exact d.r a u e
        · have := d.off p _ cell_at
          rw [← z, e] at this
          cases this
      · obtain ⟨rfl, rfl⟩ := of_cell e
        exact d.off a _ cell_at
      · by_cases z : a = p
        · rw [z, upd_same] at e
          cases e
          rw [z]
          exact .inl cell_at
        · rw [upd_ne z] at e
          rcases d.all a u e with e | e
          · obtain ⟨rfl, _⟩ := of_cell e
            exact absurd rfl z
          · exact .inr e
    have d3 : Dis Or (cell p (.ins (He.ga K C) dx (putF f y (fs.zip vs)))) (upd (Os i) p (.ins (He.ga K C) dx (putF f y (fs.zip vs)))) := ⟨d2.r, d2.l, d2.off.symm, fun a u e => (d2.all a u e).symm⟩
    have offU : OffP On (upd (Os i) p (.ins (He.ga K C) dx (putF f y (fs.zip vs)))) := fun a u e => by
      rw [upd_ne (np a u e)]
      exact offO i a u e
    have offJ : OffP On (join (cell p (.ins (He.ga K C) dx (putF f y (fs.zip vs)))) Or) := by rw [← d3.eq]; exact offU
    have z := Dis.anew offJ d3.off
    rw [← d3.eq] at z
    refine ⟨p, vs ++ [y], .ins (He.ga K C) dx (putF f y (fs.zip vs)), join Or On, rfl, ⟨dx, by rw [putF_new hf (by rw [len, hos])]⟩, nx_ins, ⟨z.r, z.l, z.off.symm, fun a u e => (z.all a u e).symm⟩, s.snoc offR n4⟩
end
end NM
/-! A list of new things. -/
namespace NM
open PySem PySem.Spec PyProof.Rows L2
variable [Tbs]
section
variable {K : PySem.W.Frag} {B : Hp} {env : Env}
theorem lc_atN {α : Type} {F H : Hp} {σ : L2.St} {wi : TI} {g : TG} {te : TE} {vs js : List Nat} {xs : List α} {enc : α → D} (ts : α → List D) (f : α → Ow) (R : RelE K B F H σ env) (hi : IterI K wi σ F H (xs.map enc))
    (hg : ∀ x, x ∈ xs → EvG K g js (enc x) (ts x)) (hj : ∀ j ∈ js, j ∈ vs) (he : ∀ x, x ∈ xs → Ev K B te (setD (wipeE env vs) js (ts x)) (.nw (f x)))
    (hl : xs.length ≤ sizeLine) {Q : VK} (q : ∀ v F' H', Gr F F' H H' → VlOk K B H F' H' v (.nw (oLs (xs.map f))) → Q v H') : tLc wi g tYes te vs σ H Q := by
  refine hi _ fun J F' H' G Y gr w hG hY => ?_
  intro D hD
  have g0 : Gr F' F' H' (upd H' D (.lst [])) := Gr.new gr.kn hD
  have fD : Fr F' D := gr.kn.free hD
  refine lc_it w (fun i Hc => ∃ (Fi : Hp) (acc : List V) (Oa : Hp), Gr F' Fi H' Hc ∧ Fr Fi D ∧ Hc D = some (.lst acc) ∧ acc.length ≤ i ∧ (∀ a u, Oa a = some u → Hc a = some u ∧ NX u) ∧ Off Oa Fi ∧ Off Oa H' ∧ Oa D = none ∧ SepL K Fi ((xs.take i).map f) Oa acc)
    ⟨F', [], fun _ => none, g0, fD, upd_same, Nat.le_refl _, (fun _ _ z => nomatch z), (fun _ _ z => nomatch z), (fun _ _ z => nomatch z), rfl, trivial⟩ ?_ ?_ ?_
  · intro i Hc _ ⟨Fi, acc, Oa, gi, _⟩
    exact hG Hc (gi.fk.trans gi.kn) gi.hh
  · intro i x Hc Hd hin ⟨Fi, acc, Oa, gi, nD, hDc, hacc, o1, o2, o3, o4, racc⟩ y
    obtain ⟨F2, d, g2, e2, r2⟩ := hY i Hc x Hd hin y Fi gi.kn gi.ff
    rw [List.getElem?_map] at e2
    obtain ⟨z, hz, rfl⟩ := Option.map_eq_some_iff.mp e2
    have hzm := List.mem_of_getElem? hz
    obtain ⟨us, ru, kg⟩ := hg z hzm F2 Hd x g2.kn r2
    refine kg _ _ ⟨by rw [wipe_setS hj, wipe_wipe], ?_⟩
    have R2 : RelE K B F2 Hd (setS (L2.wipe σ vs) js us) (setD (wipeE env vs) js (ts z)) := RelE.sets ((R.step ((gr.trans gi).trans g2)).wipe vs) ru
    refine et_yes F2 Hd _ R2 _ fun F3 H3 g3 => ?_
    have g13 : Gr Fi F3 Hc H3 := g2.trans g3
    have hz2 : xs.take (i + 1) = xs.take i ++ [z] := by rw [List.take_succ, hz] <;> rfl
    rw [if_pos rfl]
    refine he z hzm F3 H3 _ (R2.step g3) _ fun yv F4 H4 g4 ry => ?_
    have g14 : Gr Fi F4 Hc H4 := g13.trans g4
    have n4 : Fr F4 D := g14.fr D _ nt_lst hDc nD
    obtain ⟨On, p1, p2, p3, p4⟩ := ry
    have eD3 : H3 D = some (.lst acc) := g13.hh D _ nt_lst hDc
    have nOn : ∀ a u, On a = some u → a ≠ D := fun a u e z => p3 a u e (.lst acc) nt_lst (by rw [z]; exact eD3)
    have offO : OffP On Oa := fun a u e => by
      cases q : Oa a with
      | none => rfl
      | some w =>
        obtain ⟨q1, q2⟩ := o1 a w q
        exact absurd (g13.hh a w q2.1 q1) (p3 a u e w q2.1)
    refine ⟨acc, g14.hh D _ nt_lst hDc, ?_, F4, acc ++ [yv], join Oa On, ?_, n4, upd_same, ?_, fun a u e => ?_, fun a u e => ?_, fun a u e => ?_, ?_, ?_⟩
    · have : i < (xs.map enc).length := hin
      rw [List.length_map] at this
      omega
    · have g5 := gi.trans g14
      refine ⟨g5.ff, g5.fr, fun a u n e => ?_, fun t => tabs_of (fun a u n e => ?_) (g5.tb t), fun a u n e => ?_⟩
      · rw [upd_ne (ne_of_none e hD)]
        exact g5.hh a u n e
      · rw [upd_ne fun z => ?_]
        · exact e
        · rw [z, g14.hh D _ nt_lst hDc] at e
          cases e
          exact n nx_lst
      · rw [upd_ne (n4.ne n e)]
        exact g5.kn a u n e
    · rw [List.length_append, List.length_singleton]
      omega
    · rcases join_cases e with e | ⟨_, e⟩
      · rw [upd_ne (nOn a u e)]
        exact p1 a u e
      · rw [upd_ne fun z => by rw [z, o4] at e; cases e]
        exact ⟨g14.hh a u (o1 a u e).2.1 (o1 a u e).1, (o1 a u e).2⟩
    · rcases join_cases e with e | ⟨_, e⟩
      · exact p2 a u e
      · exact g14.fr a u (o1 a u e).2.1 (o1 a u e).1 (o2 a u e)
    · rcases join_cases e with e | ⟨_, e⟩
      · intro w n x
        refine p3 a u e w n (g13.hh a w n (gi.hh a w n x))
      · exact o3 a u e
    · rw [join_out]
      · exact o4
      · cases q : On D with
        | none => rfl
        | some w => exact absurd rfl (nOn D w q)
    · rw [hz2, List.map_append]
      exact SepL.snoc (racc.mono g14.fk) offO p4
  · intro Hc ⟨Fi, acc, Oa, gi, nD, hDc, hacc, o1, o2, o3, o4, racc⟩
    rw [List.length_map, List.take_of_length_le (Nat.le_refl _)] at racc
    have offc : OffP (cell D (.lst acc)) Oa := fun a u e => by
      obtain ⟨rfl, rfl⟩ := of_cell e
      exact o4
    refine q _ Fi Hc (gr.trans gi) ⟨join Oa (cell D (.lst acc)), fun a u e => ?_, fun a u e => ?_, fun a u e => ?_, D, acc, .lst acc, Oa, rfl, rfl, nx_lst, Dis.mkJ offc, racc⟩
    · rcases join_cases e with e | ⟨_, e⟩
      · obtain ⟨rfl, rfl⟩ := of_cell e
        exact ⟨hDc, nx_lst⟩
      · exact o1 a u e
    · rcases join_cases e with e | ⟨_, e⟩
      · obtain ⟨rfl, rfl⟩ := of_cell e
        exact nD
      · exact o2 a u e
    · rcases join_cases e with e | ⟨_, e⟩
      · obtain ⟨rfl, rfl⟩ := of_cell e
        exact gr.mo _ (Fr.of hD)
      · exact fun w n x => o3 a u e w n (gr.hh a w n x)
/-- [a new thing for x in xs] -/
theorem v_lcN {α β : Type} {wi : TI} {g : TG} {te : TE} {vs js : List Nat} {xs : List α} {enc : α → D} (ts : α → List D) (f : β → Ow) (h : α → β) (hl : xs.length ≤ sizeLine) (hi : EvI K B wi env (xs.map enc))
    (hg : ∀ x, x ∈ xs → EvG K g js (enc x) (ts x)) (hj : ∀ j ∈ js, j ∈ vs) (he : ∀ x, x ∈ xs → Ev K B te (setD (wipeE env vs) js (ts x)) (.nw (f (h x)))) : Ev K B (tLc wi g tYes te vs) env (.nw (oLs ((xs.map h).map f))) := fun F H σ R Q q =>
  lc_atN ts (fun x => f (h x)) R (hi F H σ R) hg hj he hl (by rw [List.map_map] at q; exact q)
end
section
variable {α M ρ' β σ ρ : Type} {K : PySem.W.Frag} {B : Hp} {env : Env} {Fn : M → α → Pg M (ρ' × M)} {en : α → List D} {er' : ρ' → D} {ob : β → Ow} {oi : M → Ow} {i n : Nat} {g : M → β} {m : M} {b : β} {td : TE} {tt : TA} {W : WX} {u : TS} {ek : σ → Env} {er : RE ρ} {C : Addr} {mm : Str}
/-- a call that writes and comes back -/
theorem so_callMR [Inhabited M] {E : L2.St → XK} (fc : Foc K B env i td ob b oi m g) (hc : ObjC K (oi m) C mm) (a : α) (c : IsNx (Fn m a)) (ha : EvA K B tt env ((en a).map .im)) (hn : (en a).length + 1 = n) {k : β → Pg σ ρ} (h : ∀ z, Sq K B W u (env.set i (.ow (ob z))) ek er (k z)) :
    Sq K B W (tSeq (tDrop (tMt C mm (spM K Fn en er' oi oi n) E td tt)) u) env ek er (lt (g (nxO (Fn m a))) k) := fun o e => by
  refine sx_seq (sx_dropS (es_callM fc hc a ha hn (.inl c)) ?_)
  obtain ⟨z, q⟩ := c
  rw [q] at e ⊢
  exact h _ o e
end
section
variable {K : PySem.W.Frag} {mm : Str} {m : PMap}
theorem objC_map (h : mm ∉ fsMap) : ObjC K (oMap m) (He.ga K "Map") mm := objC_nd h
theorem objB_map (h : mm ∉ fsMap) : ObjB K (bMap m) (He.ga K "Map") mm := objB_nd h
end
end NM
/-! What the laws need: several names at once, expressions that write. -/
namespace NM
open PySem PySem.Spec PyProof.Rows L2
variable [Tbs]
section
variable {K : PySem.W.Frag} {B : Hp} {env : Env} {te ta tb : TE}
theorem ev_eqB {i j : Bool} (ha : Ev K B ta env (.im (.bl i))) (hb : Ev K B tb env (.im (.bl j))) : Ev K B (tOp rEq ta tb) env (.im (.bl (decide (i = j)))) :=
  ev_op ha hb fun B F H x y k ⟨_, hx⟩ ⟨_, hy⟩ Q q => by
    obtain rfl := Rp.inv_bl hx
    obtain rfl := Rp.inv_bl hy
    refine ⟨rfl, q _ F H (Gr.refl k) ?_⟩
    have e : decide (V.bl i = V.bl j) = decide (i = j) := by cases i <;> cases j <;> rfl
    rw [e]
    exact .bl _
theorem ev_neB {i j : Bool} (ha : Ev K B ta env (.im (.bl i))) (hb : Ev K B tb env (.im (.bl j))) : Ev K B (tOp rNe ta tb) env (.im (.bl (!decide (i = j)))) :=
  ev_op ha hb fun B F H x y k ⟨_, hx⟩ ⟨_, hy⟩ Q q => by
    obtain rfl := Rp.inv_bl hx
    obtain rfl := Rp.inv_bl hy
    refine ⟨rfl, q _ F H (Gr.refl k) ?_⟩
    have e : decide (V.bl i = V.bl j) = decide (i = j) := by cases i <;> cases j <;> rfl
    rw [e]
    exact .bl _
theorem v_dictD {α : Type} {f : α → D} {kvs : List (Str × α)} (h : Ev K B te env (.ob (eD f kvs))) : Ev K B (tCB (fun xs H Q => ∃ (a : Addr) (kvs : List (Key × V)), xs = [.ref a] ∧ Rd H a (.dK kvs) ∧ ∀ p, H p = none → Q (.ref p) (upd H p (.dK kvs))) (tCons te tNil)) env (.nw (oM (eD f kvs))) :=
  ev_cb (ea_cons h ea_nil) fun B F H xs k ⟨_, hx⟩ Q q => by
    cases hx with
    | cons h1 h2 =>
      cases h2
      obtain ⟨a, ks, rfl, rd, rk⟩ := h1
      refine ⟨a, ks, rfl, rd, fun p hp => ?_⟩
      refine q _ F _ (Gr.new k hp) ⟨cell p (.dK ks), fun x u e => ?_, fun x u e => ?_, fun x u e => ?_, p, ks, rfl, upd_same, rk⟩
      · obtain ⟨rfl, rfl⟩ := of_cell e
        exact ⟨upd_same, nx_dK⟩
      · obtain ⟨rfl, rfl⟩ := of_cell e
        exact k.free hp
      · obtain ⟨rfl, rfl⟩ := of_cell e
        exact Fr.of hp
end
/-! ### several names at once -/
def slA : Vl → Sl
  | .im d => .im d
  | .nw o => .ow o
  | .br o => .br o
  | .lo _ => .un
section
variable {σ ρ α β γ : Type} {K : PySem.W.Frag} {B H0 F0 F F' H H' : Hp} {st : L2.St} {env : Env} {i j l : Nat} {ta tb tc : TE} {W : WX} {u : TS} {ek : σ → Env} {er : RE ρ}
theorem RelS.setV {v : V} {r : Vl} (R : RelS K B H0 F0 F H st env) (g : Gr F F' H H') (x : VlOk K B H F' H' v r) : RelS K B H0 F0 F' H' (st.set i (some v)) (env.set i (slA r)) := by
  cases r with
  | im d => exact (R.step g).setI x
  | nw o => exact R.setW g x
  | br o => exact (R.step g).setB x
  | lo o =>
    obtain ⟨Os, R⟩ := R.step g
    refine ⟨Os, R.gr, R.bn, by rw [List.length_set, List.length_set]; exact R.len, fun k s e => ?_, R.oo, R.of, R.oz, R.oh⟩
    by_cases q : k = i
    · subst q
      obtain ⟨rfl, _⟩ := get_set_self e
      trivial
    · rw [List.getElem?_set_ne (Ne.symm q)] at e
      rw [List.getElem?_set_ne (Ne.symm q)]
      exact R.sl k s e
theorem so_par2 (f : α → Vl) (g : β → Vl) {a : α} {b : β} {k : α → β → Pg σ ρ} (h1 : Ev K B ta env (f a)) (h2 : Ev K B tb env (g b)) (h : ∀ x y, Sq K B W u ((env.set i (slA (f x))).set j (slA (g y))) ek er (k x y)) :
    Sq K B W (tSeq (tPar i j (tCons ta (tCons tb tNil))) u) env ek er (lt2 (a, b) k) := fun o e => sx_seq fun H0 F0 F H st R D q =>
  h1 F H st R.e _ fun v F1 H1 g1 x1 => h2 F1 H1 st (R.e.step g1) _ fun w F2 H2 g2 x2 => ⟨v, w, rfl, q (.nx _) (h a b o e) F2 H2 _ ((R.setV g1 x1).setV g2 x2)⟩
theorem so_par2T (f : α → Vl) (g : β → Vl) {a : α} {b : β} {k : α → β → Pg σ ρ} (h1 : Ev K B ta env (f a)) (h2 : Ev K B tb env (g b)) (h : ∀ x y, Sq K B W u ((env.set i (slA (f x))).set j (slA (g y))) ek er (k x y)) :
    Sq K B W (tSeq (tAsg (tTup (tCons ta (tCons tb tNil))) (gTup K 2 (gCons (gName i) (gCons (gName j) gNil)))) u) env ek er (lt2 (a, b) k) := fun o e => sx_seq fun H0 F0 F H st R D q =>
  h1 F H st R.e _ fun v F1 H1 g1 x1 => h2 F1 H1 st (R.e.step g1) _ fun w F2 H2 g2 x2 => ⟨Nat.le_of_ble_eq_true rfl, fun p hp => ⟨p, [v, w], rfl, .inl (.inl upd_same), rfl, v, [w], rfl, w, [], rfl, rfl,
    q (.nx _) (h a b o e) F2 _ _ (((R.setV g1 x1).setV g2 x2).step (Gr.new g2.kn hp))⟩⟩
theorem so_par3T (f : α → Vl) (g : β → Vl) (f3 : γ → Vl) {a : α} {b : β} {c : γ} {k : α → β → γ → Pg σ ρ} (h1 : Ev K B ta env (f a)) (h2 : Ev K B tb env (g b)) (h3 : Ev K B tc env (f3 c)) (h : ∀ x y z, Sq K B W u (((env.set i (slA (f x))).set j (slA (g y))).set l (slA (f3 z))) ek er (k x y z)) :
    Sq K B W (tSeq (tAsg (tTup (tCons ta (tCons tb (tCons tc tNil)))) (gTup K 3 (gCons (gName i) (gCons (gName j) (gCons (gName l) gNil))))) u) env ek er (lt3 (a, b, c) k) := fun o e => sx_seq fun H0 F0 F H st R D q =>
  h1 F H st R.e _ fun v F1 H1 g1 x1 => h2 F1 H1 st (R.e.step g1) _ fun w F2 H2 g2 x2 => h3 F2 H2 st ((R.e.step g1).step g2) _ fun z F3 H3 g3 x3 => ⟨Nat.le_of_ble_eq_true rfl, fun p hp => ⟨p, [v, w, z], rfl, .inl (.inl upd_same), rfl, v, [w, z], rfl, w, [z], rfl, z, [], rfl, rfl,
    q (.nx _) (h a b c o e) F3 _ _ ((((R.setV g1 x1).setV g2 x2).setV g3 x3).step (Gr.new g3.kn hp))⟩⟩
end
/-! ### expressions that write -/
def EvTS (K : PySem.W.Frag) (B : Hp) (tt : TT) (env : Env) (b : Bool) (env' : Env) : Prop :=
  ∀ H0 F0 F H st, RelS K B H0 F0 F H st env → ∀ Q : Bool → Hp → Prop, (∀ F' H', RelS K B H0 F0 F' H' st env' → Q b H') → tt st H Q
section
variable {σ ρ δ β : Type} {K : PySem.W.Frag} {B : Hp} {env env' : Env} {te tb : TE} {c c2 : TT} {d e : D} {b b2 : Bool} {W : WX} {t u : TS} {ek : σ → Env} {er : RE ρ}
theorem ets_test (h : EvS K B te env (.bl b) env') : EvTS K B (tTest te) env b env' := fun H0 F0 F H st R Q q =>
  h H0 F0 F H st R _ fun v F' H' R' r => by
    obtain rfl := Rp.inv_bl r
    exact ⟨b, rfl, q F' H' R'⟩
theorem ets_or (h : EvTS K B c env b env') (h2 : b = false → EvT K B c2 env' b2) : EvTS K B (tOr c c2) env (b || b2) env' := fun H0 F0 F H st R Q q =>
  h H0 F0 F H st R _ fun F1 H1 R1 => by
    cases b with
    | true => exact q F1 H1 R1
    | false => exact h2 rfl F1 H1 st R1.e Q fun F2 H2 g2 => q F2 H2 (R1.step g2)
theorem es_neD (h : EvS K B te env d env') (hb : Ev K B tb env' (.ob e)) (od : OkD d) (oe : OkD e) : EvS K B (tOp (rNeD K) te tb) env (.bl (!deq d e)) env' := by
  obtain ⟨n, hn, od⟩ := od
  obtain ⟨m, hm, oe⟩ := oe
  exact es_opL h hb fun B F H x y k ⟨_, hx⟩ ⟨_, hy⟩ Q q => ⟨_, _, ob_dp k od (ObsD.of k hx), ob_dp k oe hy, okd_shaped od (by omega), okd_shaped oe (by omega), by rw [eqv_okd od oe]; exact q _ F H (Gr.refl k) (Rp.bl _)⟩
theorem es_eqD (h : EvS K B te env d env') (hb : Ev K B tb env' (.ob e)) (od : OkD d) (oe : OkD e) : EvS K B (tOp (rEqD K) te tb) env (.bl (deq d e)) env' := by
  obtain ⟨n, hn, od⟩ := od
  obtain ⟨m, hm, oe⟩ := oe
  exact es_opL h hb fun B F H x y k ⟨_, hx⟩ ⟨_, hy⟩ Q q => ⟨_, _, ob_dp k od (ObsD.of k hx), ob_dp k oe hy, okd_shaped od (by omega), okd_shaped oe (by omega), by rw [eqv_okd od oe]; exact q _ F H (Gr.refl k) (Rp.bl _)⟩
/-- if .. that leaves, its test writes -/
theorem so_ifXE {d : δ} {m : β} {p : δ → β → Prop} {m1 m2 : δ → β → Pg σ ρ} (bf : δ → β → Bool) (ef : β → Env) (hS : p d m → EvTS K B c env (bf d m) (ef m)) (h1 : ∀ d m, p d m → bf d m = true → Sq K B W t (ef m) ek er (m1 d m)) (h2 : ∀ d m, p d m → bf d m = false → Sq K B W u (ef m) ek er (m2 d m)) :
    Sq K B W (tSeq (tIfS c t tNext) u) env ek er (lt2 (d, m) fun d m => gd (p d m) (cond (bf d m) (nn (m1 d m)) (m2 d m))) := fun o e => by
  obtain ⟨hp, e⟩ := gd_some (show gd (p d m) (cond (bf d m) (nn (m1 d m)) (m2 d m)) = some o from e)
  refine sx_seq fun H0 F0 F H st R D q => hS hp H0 F0 F H st R _ fun F' H' R' => ?_
  cases hb : bf d m with
  | true =>
    rw [hb] at e
    have e : nn (m1 d m) = some o := e
    have e' : m1 d m = some o := by
      cases hm : m1 d m with
      | none => rw [hm] at e; cases e
      | some w => rw [hm] at e; cases w <;> first | exact e | cases e
    refine h1 d m hp hb o e' H0 F0 F' H' st R' _ fun o' z => q o' ?_
    cases o with
    | nx s => rw [e'] at e; cases e
    | rt r => obtain ⟨e2, rfl, w⟩ := z; exact ⟨e2, rfl, w⟩
    | bk s => obtain rfl := z; exact rfl
    | ct s => obtain rfl := z; exact rfl
    | ex s => obtain ⟨e2, rfl, w⟩ := z; exact ⟨e2, rfl, w⟩
  | false =>
    rw [hb] at e
    exact q (.nx (ef m)) (h2 d m hp hb o e) F' H' st R'
theorem so_retS {a : ρ} (h : EvS K B te env d env') (e0 : er.er a = .im d) (w : Wk env' (er.xr a)) : Sq K B W (tSeq (tRet te) u) env ek er (some (.rt a)) := fun o e => by
  cases e
  refine sx_seq (sx_retS h (show oIs K ek er (.rt a) _ from ⟨env', by rw [e0], w⟩))
/-- told(lambda: .. if .. else ..) -/
theorem so_retToldIf {T : List (Addr × Str)} {ws : TSp} {t1 t2 : XK → TE} {m1 m2 : Pg σ ρ} (hT : T = Tbs.T) (hc : EvT K B c env b) (h1 : b = true → Sq K B W (tSeq (tRet (tTold T ws t1)) u) env ek er m1) (h2 : b = false → Sq K B W (tSeq (tRet (tTold T ws t2)) u) env ek er m2) :
    Sq K B W (tSeq (tRet (tTold T ws fun E => tIf c (t1 E) (t2 E))) u) env ek er (cond b m1 m2) := fun o e => fun H0 F0 F H st R D q => by
  subst hT
  refine ⟨R.e.bn.tb, fun H1 eN T1 => ?_⟩
  have gg := Gr.tables R.e.kn eN T1
  have R1 := R.step gg
  refine hc F H1 st R1.e _ fun F2 H2 g2 => ?_
  have R2 := R1.step g2
  cases b with
  | true => exact (h1 rfl o e H0 F0 F2 H2 st R2 D q).2 H2 (fun _ _ e _ => e) R2.e.bn.tb
  | false => exact (h2 rfl o e H0 F0 F2 H2 st R2 D q).2 H2 (fun _ _ e _ => e) R2.e.bn.tb
end
end NM
/-! The least, the greatest of lists. -/
namespace NM
open PySem PySem.Spec PyProof.Rows L2
open PySem.W (DatumOrd Datum)
section
variable {α β : Type} [DecidableEq α] [DatumOrd α] [TotO α] [DecidableEq β] [DatumOrd β] [TotO β]
theorem pairLt (p q : α × β) : DatumOrd.lt p q = if p.1 = q.1 then DatumOrd.lt p.2 q.2 else DatumOrd.lt p.1 q.1 := rfl
instance : TotO (α × β) where
  irr a := by rw [pairLt, if_pos rfl]; exact TotO.irr _
  tr a b c h1 h2 := by
    rw [pairLt] at *
    by_cases e1 : a.1 = b.1
    · rw [if_pos e1] at h1
      by_cases e2 : b.1 = c.1
      · rw [if_pos e2] at h2
        rw [if_pos (e1.trans e2)]
        exact TotO.tr _ _ _ h1 h2
      · rw [if_neg e2] at h2
        rw [if_neg (by rw [e1]; exact e2), e1]
        exact h2
    · rw [if_neg e1] at h1
      by_cases e2 : b.1 = c.1
      · rw [if_neg (by rw [← e2]; exact e1), ← e2]
        exact h1
      · rw [if_neg e2] at h2
        have h3 := TotO.tr _ _ _ h1 h2
        by_cases e3 : a.1 = c.1
        · rw [e3, TotO.irr] at h3
          cases h3
        · rw [if_neg e3]
          exact h3
  tot a b := by
    rw [pairLt, pairLt]
    by_cases e : a.1 = b.1
    · rw [if_pos e, if_pos e.symm]
      rcases TotO.tot a.2 b.2 with h | h | h
      · exact .inl (Prod.ext e h)
      · exact .inr (.inl h)
      · exact .inr (.inr h)
    · rw [if_neg e, if_neg (Ne.symm e)]
      rcases TotO.tot a.1 b.1 with h | h | h
      · exact absurd h e
      · exact .inr (.inl h)
      · exact .inr (.inr h)
end
def maxL : List Int → Int
  | [] => 0
  | x :: xs => xs.foldl max x
def minL : List Int → Int
  | [] => 0
  | x :: xs => xs.foldl min x
theorem foldl_max : ∀ (xs : List Int) (x : Int), xs.foldl max x ∈ x :: xs ∧ ∀ y ∈ x :: xs, y ≤ xs.foldl max x
  | [], x => ⟨List.mem_cons_self, fun y hy => by rw [List.mem_singleton.mp hy]; exact Int.le_refl _⟩
  | y :: r, x => by
    obtain ⟨h1, h2⟩ := foldl_max r (max x y)
    rw [List.foldl_cons]
    refine ⟨?_, fun z hz => ?_⟩
    · rcases List.mem_cons.mp h1 with h | h
      · rw [h]
        rcases Int.le_total x y with q | q
        · rw [Int.max_eq_right q]; simp
        · rw [Int.max_eq_left q]; simp
      · simp [h]
    · have hm := h2 (max x y) List.mem_cons_self
      rcases List.mem_cons.mp hz with rfl | hz
      · omega
      · rcases List.mem_cons.mp hz with rfl | hz
        · omega
        · exact h2 z (List.mem_cons_of_mem _ hz)
theorem foldl_min : ∀ (xs : List Int) (x : Int), xs.foldl min x ∈ x :: xs ∧ ∀ y ∈ x :: xs, xs.foldl min x ≤ y
  | [], x => ⟨List.mem_cons_self, fun y hy => by rw [List.mem_singleton.mp hy]; exact Int.le_refl _⟩
  | y :: r, x => by
    obtain ⟨h1, h2⟩ := foldl_min r (min x y)
    rw [List.foldl_cons]
    refine ⟨?_, fun z hz => ?_⟩
    · rcases List.mem_cons.mp h1 with h | h
      · rw [h]
        rcases Int.le_total x y with q | q
        · rw [Int.min_eq_left q]; simp
        · rw [Int.min_eq_right q]; simp
      · simp [h]
    · have hm := h2 (min x y) List.mem_cons_self
      rcases List.mem_cons.mp hz with rfl | hz
      · omega
      · rcases List.mem_cons.mp hz with rfl | hz
        · omega
        · exact h2 z (List.mem_cons_of_mem _ hz)
theorem maxL_spec {xs : List Int} (h : xs ≠ []) : maxL xs ∈ xs ∧ ∀ y ∈ xs, y ≤ maxL xs := by
  cases xs with
  | nil => exact absurd rfl h
  | cons x xs => exact foldl_max xs x
theorem minL_spec {xs : List Int} (h : xs ≠ []) : minL xs ∈ xs ∧ ∀ y ∈ xs, minL xs ≤ y := by
  cases xs with
  | nil => exact absurd rfl h
  | cons x xs => exact foldl_min xs x
variable [Tbs]
section
variable {K : PySem.W.Frag} {B : Hp} {env : Env} {te : TE}
theorem v_maxL {ns : List Int} (c : ns ≠ []) (h : Ev K B te env (.ob (eL eI ns))) : Ev K B (tCB (rMax K) (tCons te tNil)) env (.im (.int (maxL ns))) :=
  ev_cb (ea_cons h ea_nil) fun B F H vs k ⟨H0, hv⟩ Q q => by
    cases hv with
    | cons hv hn =>
      cases hn
      obtain ⟨p, xs, rfl, ex, r⟩ := hv
      obtain rfl := r.ints
      obtain ⟨h1, h2⟩ := maxL_spec c
      refine ⟨p, ns, rfl, .inl (.inl ex), List.length_pos_iff.mpr c, fun m hm hy => ?_⟩
      have e : m = maxL ns := Int.le_antisymm (h2 m hm) (hy _ h1)
      rw [e]
      exact q _ F H (Gr.refl k) (.int _)
theorem v_minL {ns : List Int} (c : ns ≠ []) (h : Ev K B te env (.ob (eL eI ns))) : Ev K B (tCB (rMin K) (tCons te tNil)) env (.im (.int (minL ns))) :=
  ev_cb (ea_cons h ea_nil) fun B F H vs k ⟨H0, hv⟩ Q q => by
    cases hv with
    | cons hv hn =>
      cases hn
      obtain ⟨p, xs, rfl, ex, r⟩ := hv
      obtain rfl := r.ints
      obtain ⟨h1, h2⟩ := minL_spec c
      refine ⟨p, ns, rfl, .inl (.inl ex), List.length_pos_iff.mpr c, fun m hm hy => ?_⟩
      have e : m = minL ns := Int.le_antisymm (hy _ h1) (h2 m hm)
      rw [e]
      exact q _ F H (Gr.refl k) (.int _)
/-- the least of pairs of a number and a name -/
def minP : List (Int × Str) → Int × Str
  | [] => default
  | x :: xs => PySem.W.minOf x xs
theorem v_minP {zs : List (Int × Str)} (c : zs ≠ [] ∧ ∀ x ∈ zs, PyData.strOk x.2 = true) (h : Ev K B te env (.ob (eL (eP eI eS) zs))) : Ev K B (tCB (rMinG K) (tCons te tNil)) env (.im (eP eI eS (minP zs))) := by
  cases zs with
  | nil => exact absurd rfl c.1
  | cons x xs => exact ev_min (enc := eP eI eS) (n := 1) (fun _ => rfl) (fun z hz d hd => by
      simp only [List.mem_cons, List.not_mem_nil, or_false] at hd
      rcases hd with rfl | rfl
      · exact trivial
      · exact c.2 z hz) (by decide) (ea_cons h ea_nil)
end
/-- max of a pair of numbers -/
def rMaxP (K : PySem.W.Frag) : List V → Hp → VK → Prop := fun vs H Q => ∃ (a : Addr) (i j : Int), vs = [V.ref a] ∧ SqT K H a [.int i, .int j] ∧ Q (.int (max i j)) H
theorem cr_maxP {X : Cx} (hc : X.calm = true) (hu : X.A.units + 64 < cLine) : CallR X (.builtin "max") (rMaxP X.K) := by
  intro pins s σ H vs us Q I r h
  obtain ⟨a, i, j, rfl, hs, q⟩ := h
  obtain ⟨its, rv, hl, hz⟩ := I.tuple hs
  rw [Vals.ref1 r]
  have hd : DpAll X.K H [V.int i, V.int j] [.int i, .int j] := .cons (.int i) (.cons (.int j) .nil)
  obtain ⟨as, hr⟩ := Dp.readsAll I _ _ its hd rv
  refine PySem.W.max_tuple_data (x := .int i) (xs := [.int j]) (I.ok.hd hc) hl (by simpa using hr) (PySem.W.alikeAll_datum [i, j]) (by
    have : PyData.depthAll [PyData.int i, .int j] = 0 := rfl
    omega) fun k v h' tk bs hi hm hk => ?_
  have hi : its[k]? = some v := by simpa using hi
  obtain ⟨x, hx, rx⟩ := vals_at rv hi
  obtain ⟨e, he, de⟩ := dpl_at hd hx
  have I' : Inv X pins σ H { s with heap := h', toks := tk } := I.kept hk
  obtain ⟨as', re⟩ := Dp.reads I' e x v de rx
  have ee : e = PySem.W.maxD (.int i) [.int j] := (PySem.Reads.unique re _ _ hm).1
  have e2 : PySem.W.maxD (.int i) [.int j] = .int (max i j) := by
    have := PySem.W.maxD_ints i [j]
    exact this
  rw [e2] at ee
  subst ee
  cases de
  exact ⟨_, H, I', rx, q⟩
theorem v_maxP {K : PySem.W.Frag} {B : Hp} {env : Env} {te : TE} {p : Int × Int} (h : Ev K B te env (.im (eP eI eI p))) : Ev K B (tCB (rMaxP K) (tCons te tNil)) env (.im (.int (max p.1 p.2))) :=
  ev_cb (ea_cons h ea_nil) fun B F H vs k ⟨H0, hv⟩ Q q => by
    cases hv with
    | cons hv hn =>
      cases hn
      obtain ⟨a, xs, rfl, e, r⟩ := Rp.inv_tup hv
      cases r with
      | cons r1 r =>
        cases r with
        | cons r2 r =>
          cases r
          obtain rfl := Rp.inv_int r1
          obtain rfl := Rp.inv_int r2
          exact ⟨a, p.1, p.2, rfl, k.sqT e, q _ F H (Gr.refl k) (.int _)⟩
end NM
/-! Loops that are left; lists. -/
namespace NM
open PySem PySem.Spec PyProof.Rows L2
variable [Tbs]
section
variable {α β σ τ ρ : Type}
/-- a for that may be broken or left -/
theorem for_RB (R : Pg τ ρ → Prop) {step : α → σ → Pg σ ρ} {k : σ → Pg τ ρ} {xs : List α} {s0 : σ} (I : List α → σ → Prop) (h0 : I [] s0)
    (hs : ∀ pre x post s, xs = pre ++ x :: post → I pre s → (∃ s', step x s = some (.nx s') ∧ I (pre ++ [x]) s') ∨ (∃ s', step x s = some (.bk s') ∧ R (k s')) ∨ (∃ r, step x s = some (.rt r) ∧ R (some (.rt r))))
    (hk : ∀ s, I xs s → R (k s)) : R (bindO (forO step xs s0) k) := by
  have key : ∀ (ys pre : List α) (s : σ), xs = pre ++ ys → I pre s → R (bindO (forO step ys s) k) := by
    intro ys
    induction ys with
    | nil => intro pre s e i; rw [List.append_nil] at e; subst e; exact hk s i
    | cons y ys ih =>
      intro pre s e i
      unfold forO
      rcases hs pre y ys s e i with ⟨s', h1, h2⟩ | ⟨s', h1, h2⟩ | ⟨r, h1, h2⟩
      · rw [h1]; exact ih (pre ++ [y]) s' (by rw [e]; simp) h2
      · rw [h1]; exact h2
      · rw [h1]; exact h2
  exact key xs [] s0 rfl h0
/-- a while that may be left -/
theorem while_RB (R : Pg τ ρ → Prop) {p : σ → Prop} {c : σ → Bool} {body : σ → Pg σ ρ} {k : σ → Pg τ ρ} {s0 : σ} (I : σ → Prop) (μ : σ → Nat) (h0 : I s0)
    (hI : ∀ s, I s → p s ∧ (c s = true → (∃ s', body s = some (.nx s') ∧ I s' ∧ μ s' < μ s) ∨ (∃ r, body s = some (.rt r) ∧ R (some (.rt r)))))
    (hk : ∀ s, I s → c s = false → R (k s)) : R (bindO (whileO p c body s0) k) := by
  have key : ∀ n s, μ s ≤ n → I s → ∃ o m, itO p c body m s o ∧ R (bindO o k) := by
    intro n
    induction n with
    | zero =>
      intro s hn i
      obtain ⟨hp, h⟩ := hI s i
      cases e : c s with
      | false => exact ⟨some (.nx s), 1, ⟨hp, .inl ⟨e, rfl⟩⟩, hk s i e⟩
      | true =>
        rcases h e with ⟨s', h1, h2, l⟩ | ⟨r, h1, h2⟩
        · omega
        · refine ⟨some (.rt r), 1, ⟨hp, .inr ⟨e, ?_⟩⟩, h2⟩
          rw [h1]
    | succ n ih =>
      intro s hn i
      obtain ⟨hp, h⟩ := hI s i
      cases e : c s with
      | false => exact ⟨some (.nx s), 1, ⟨hp, .inl ⟨e, rfl⟩⟩, hk s i e⟩
      | true =>
        rcases h e with ⟨s', h1, h2, l⟩ | ⟨r, h1, h2⟩
        · obtain ⟨o, m, h3, h4⟩ := ih s' (by omega) h2
          refine ⟨o, m + 1, ⟨hp, .inr ⟨e, ?_⟩⟩, h4⟩
          rw [h1]
          exact h3
        · refine ⟨some (.rt r), 1, ⟨hp, .inr ⟨e, ?_⟩⟩, h2⟩
          rw [h1]
  obtain ⟨o, m, h1, h2⟩ := key (μ s0) s0 (Nat.le_refl _) h0
  rw [whileO_eq h1]
  exact h2
end
/-- the first item that is as wished is told -/
theorem for_first {α ρ : Type} {step : α → Unit → Pg Unit ρ} {p : α → Bool} {f : α → ρ} : ∀ {xs : List α}, (∀ x ∈ xs, step x () = cond (p x) (some (.rt (f x))) (some (.nx ()))) → forO step xs () = match xs.find? p with | some x => some (.rt (f x)) | none => some (.nx ())
  | [], _ => rfl
  | x :: xs, h => by
    unfold forO
    rw [h x List.mem_cons_self, List.find?_cons]
    cases p x with
    | true => rfl
    | false => exact for_first fun y hy => h y (List.mem_cons_of_mem _ hy)
theorem lt2_def {α β δ : Type} (a : α) (b : β) (k : α → β → δ) : lt2 (a, b) k = k a b := rfl
theorem lt3_def {α β γ δ : Type} (a : α) (b : β) (c : γ) (k : α → β → γ → δ) : lt3 (a, b, c) k = k a b c := rfl
theorem neNil (xs : List Str) : (!deq (eL eS xs) (eL eS [])) = decide (xs ≠ []) := by
  rw [deq_L eS_inj]
  simp
section
variable {α : Type}
theorem atI_last {xs : List α} (h : xs ≠ []) : L2.atI xs (-1) = some (xs.getLast h) := by
  have hl : 0 < xs.length := List.length_pos_iff.mpr h
  unfold L2.atI L2.ixN
  rw [if_neg (by decide), if_pos (by omega), List.getLast_eq_getElem]
  have e2 : ((-1 : Int) + (xs.length : Int)).toNat = xs.length - 1 := by omega
  show xs[((-1 : Int) + (xs.length : Int)).toNat]? = _
  rw [e2, List.getElem?_eq_getElem (by omega)]
theorem mem_irange3 {a b c x : Int} {n : Nat} : x ∈ irange3 a b c n ↔ ∃ i : Nat, i < n ∧ x = a + i * c := by
  unfold irange3
  rw [List.mem_map]
  constructor
  · rintro ⟨i, hi, rfl⟩
    exact ⟨i, List.mem_range.mp hi, rfl⟩
  · rintro ⟨i, hi, rfl⟩
    exact ⟨i, List.mem_range.mpr hi, rfl⟩
theorem irange3_length (a b c : Int) (n : Nat) : (irange3 a b c n).length = n := by
  unfold irange3
  rw [List.length_map, List.length_range]
/-- the item behind so many -/
theorem irange3_pos {a b c x : Int} {n : Nat} {pre post : List Int} (h : irange3 a b c n = pre ++ x :: post) : x = a + pre.length * c ∧ pre.length < n := by
  have hl := congrArg List.length h
  rw [irange3_length, List.length_append, List.length_cons] at hl
  have e : (irange3 a b c n)[pre.length]? = some x := by rw [h, List.getElem?_append_right (Nat.le_refl _)]; simp
  unfold irange3 at e
  rw [List.getElem?_map, List.getElem?_range (by omega)] at e
  exact ⟨(Option.some.inj e).symm, by omega⟩
theorem irange_pos {a b x : Int} {pre post : List Int} (h : irange a b = pre ++ x :: post) : x = a + pre.length ∧ a + pre.length < b := by
  have hl := congrArg List.length h
  rw [irange_length, List.length_append, List.length_cons] at hl
  have e : (irange a b)[pre.length]? = some x := by rw [h, List.getElem?_append_right (Nat.le_refl _)]; simp
  unfold irange at e
  rw [List.getElem?_map, List.getElem?_range (by omega)] at e
  exact ⟨(Option.some.inj e).symm, by omega⟩
theorem nodup_len [DecidableEq α] {xs ys : List α} (nx : xs.Nodup) (ny : ys.Nodup) (s : ∀ x ∈ xs, x ∈ ys) : xs.length ≤ ys.length := by
  have p : xs.Perm (ys.filter fun y => decide (y ∈ xs)) := (List.perm_ext_iff_of_nodup nx (ny.filter _)).mpr fun x => by
    rw [List.mem_filter]
    exact ⟨fun h => ⟨s x h, decide_eq_true h⟩, fun h => of_decide_eq_true h.2⟩
  have := p.length_eq
  have := List.length_filter_le (fun y => decide (y ∈ xs)) ys
  omega
/-- what of a list is left behind a part of it -/
theorem nodup_split {xs pre post : List α} {x : α} (nd : xs.Nodup) (e : xs = pre ++ x :: post) : x ∉ pre ∧ x ∉ post := by
  subst e
  rw [List.nodup_append, List.nodup_cons] at nd
  exact ⟨fun h => nd.2.2 x h x List.mem_cons_self rfl, nd.2.1.1⟩
end
end NM
/-! A new dict's values and items, walked; a def that calls itself. -/
namespace NM
open PySem PySem.Spec PyProof.Rows L2
variable [Tbs]
abbrev valsOf {α : Type} (kvs : List (Str × α)) : List α := kvs.map (·.2)
/-- what is told is locked for good -/
def tFrz (t : TE) : TE := fun σ H Q => t σ H fun x H1 => ∃ d u, x = V.ref d ∧ H1 d = some u ∧ Mut (some u) ∧ ∀ od, Q x (upd H1 d (.frz od u))
theorem pe_frz {X : Cx} {e : Expr} {t : TE} (h : PE X e t) : PE X e (tFrz t) := ⟨fun pins s σ H Q I hw => thn (h.run pins s σ H _ I hw) fun v s1 ep => by
  obtain ⟨x, H1, I1, r, d, u, rfl, hd, mu, q⟩ := ep
  obtain ⟨od, I2⟩ := I1.lock hd mu
  exact ⟨_, _, I2, r, q od⟩⟩
section
variable {K : PySem.W.Frag} {B H0 F0 F H : Hp} {σ : L2.St} {env : Env}
theorem Gr.frz {F F' H H' : Hp} {p : Addr} {ks : List (Key × V)} {od : Obj} (g : Gr F F' H H') (e : H' p = some (.dK ks)) (f : Fr H p) : Gr F F' H (upd H' p (.frz od (.dK ks))) :=
  ⟨g.ff, g.fr, fun a u n z => by
    by_cases q : a = p
    · rw [q] at z
      exact absurd z (f u n)
    · rw [upd_ne q]
      exact g.hh a u n z, fun t => tabs_upd e nx_dK (g.tb t), g.kn.lock e rfl⟩
theorem ei_vals {te : TE} {kvs : List (Str × D)} (h : Ev K B te env (.nw (oM (.dct kvs)))) : EvI K B (iVals (tFrz te)) env (kvs.map (·.2)) := fun F H σ R Q q => by
  refine h F H σ R _ fun v F' H' g r => ?_
  obtain ⟨O, a, b, c, p, ks, rfl, e, rk⟩ := r
  have hp := (a p _ e).1
  refine ⟨p, _, rfl, hp, trivial, fun od => ⟨p, od, ks, rfl, upd_same, ?_⟩⟩
  have g' : Gr F F' H (upd H' p (.frz od (.dK ks))) := g.frz hp (c p _ e)
  have w : Walk (Itd p od ks) (kvs.map (·.2)).length (fun H => H p = some (.frz od (.dK ks))) (fun i H x H' => H' = H ∧ ∃ k, ks[i]? = some (k, x)) := by
    rw [List.length_map, ← rk.length]
    exact walk_values
  refine q _ F' _ _ _ g' w (fun H2 _ k => k _ _ nt_frz upd_same) fun i H1 x H2 hi y F1 k ff => ?_
  obtain ⟨rfl, ky, hk⟩ := y
  obtain ⟨s, dd, h1, h2, h3⟩ := rk.getI hk
  exact ⟨F1, dd, Gr.refl k, by rw [List.getElem?_map, h1] <;> rfl, h3.mono (.of ff)⟩
theorem ei_items0 {te : TE} {kvs : List (Str × D)} (h : Ev K B te env (.nw (oM (.dct kvs)))) : EvI K B (iItems (tFrz te)) env (kvs.map fun p => .tup [.str p.1, p.2]) := fun F H σ R Q q => by
  refine h F H σ R _ fun v F' H' g r => ?_
  obtain ⟨O, a, b, c, p, ks, rfl, e, rk⟩ := r
  have hp := (a p _ e).1
  refine ⟨p, _, rfl, hp, trivial, fun od => ⟨p, od, ks, rfl, upd_same, ?_⟩⟩
  have g' : Gr F F' H (upd H' p (.frz od (.dK ks))) := g.frz hp (c p _ e)
  have w : Walk (Iti p od ks) (kvs.map fun p => D.tup [.str p.1, p.2]).length (fun H => H p = some (.frz od (.dK ks))) (YPair (fun i => ks[i]?.map fun kv => kV kv.1) (fun i => ks[i]?.map Prod.snd)) := by
    rw [List.length_map, ← rk.length]
    exact walk_items
  refine q _ F' _ _ _ g' w (fun H2 _ k => k _ _ nt_frz upd_same) fun i H1 x H2 hi y F1 k ff => ?_
  obtain ⟨T, x1, x2, rfl, hT, rfl, e1, e2⟩ := y
  obtain ⟨⟨ky, vv⟩, hk, ek⟩ := Option.map_eq_some_iff.mp e1
  have e3 : (ks[i]?).map Prod.snd = some x2 := e2
  rw [hk] at e3
  cases e3
  obtain ⟨s, dd, h1, h2, h3⟩ := rk.getI hk
  subst h2
  cases ek
  refine ⟨upd F1 T (.tup [.str s, vv]), .tup [.str s, dd], Gr.newF k hT, by rw [List.getElem?_map, h1] <;> rfl, ?_⟩
  have fk : Kn F' (upd F1 T (.tup [.str s, vv])) := .of fun a u n z => by
    rw [upd_ne ((k.free hT).ne n (ff a u n z))]
    exact ff a u n z
  exact .tup (.inl (.inl upd_same)) (.cons (.str s) (.cons (h3.mono fk) .nil))
end
section
variable {K : PySem.W.Frag} {B : Hp} {env : Env} {α : Type} {f : α → D} {te : TE} {kvs : List (Str × α)}
theorem ei_values (h : Ev K B te env (.nw (oM (eD f kvs)))) : EvI K B (iVals (tFrz te)) env ((valsOf kvs).map f) := by
  have z := ei_vals h
  rw [List.map_map] at z ⊢
  exact z
theorem ei_items (h : Ev K B te env (.nw (oM (eD f kvs)))) : EvI K B (iItems (tFrz te)) env (kvs.map (eP eS f)) := by
  have z := ei_items0 h
  rw [List.map_map] at z
  exact z
end
section
variable {K : PySem.W.Frag} {B : Hp} {W : WX} {env : Env} {te : TE} {u : TS} {α β γ δ σ τ ρ : Type} {ek : σ → Env} {er : RE ρ}
theorem eg_four {i j l q : Nat} {a b c d : D} : EvG K (gTup K 4 (gCons (gName i) (gCons (gName j) (gCons (gName l) (gCons (gName q) gNil))))) [i, j, l, q] (.tup [a, b, c, d]) [a, b, c, d] := fun F H v k r => by
  cases r with
  | tup q r =>
    cases r with
    | cons r1 r =>
      cases r with
      | cons r2 r =>
        cases r with
        | cons r3 r =>
          cases r with
          | cons r4 r =>
            cases r
            exact ⟨_, .cons r1 (.cons r2 (.cons r3 (.cons r4 .nil))), fun σ Q z => ⟨_, _, rfl, k.sqT q, rfl, _, _, rfl, _, _, rfl, _, _, rfl, _, _, rfl, rfl, z⟩⟩
theorem so_un4 {i j l q : Nat} (f : α → D) (f' : β → D) (f2 : γ → D) (f3 : δ → D) {p : α × β × γ × δ} {k : α → β → γ → δ → Pg σ ρ} (he : Ev K B te env (.im (e4 f f' f2 f3 p))) (h : ∀ x y z w, Sq K B W u ((((env.set i (.im (f x))).set j (.im (f' y))).set l (.im (f2 z))).set q (.im (f3 w))) ek er (k x y z w)) :
    Sq K B W (tSeq (tAsg te (gTup K 4 (gCons (gName i) (gCons (gName j) (gCons (gName l) (gCons (gName q) gNil)))))) u) env ek er (lt4 p k) := fun o e =>
  sx_seq (sx_asgG he eg_four (h p.1 p.2.1 p.2.2.1 p.2.2.2 o e))
end
/-- a field of a thing looked at, a dict, walked -/
theorem ed_brFld {K : PySem.W.Frag} {B : Hp} {env : Env} {C f : Str} {fs : List Str} {bs : List Ob} {kvs : List (Str × D)} {i : Nat} (cf : CF K C f) (k : Nat) (hf : fs[k]? = some f) (nd : fs.Nodup) (h : env[i]? = some (.br (bNd (mkI C fs) bs))) (hb : bs[k]? = some (oB (.dct kvs))) : EvD K B (tFld K (tVar i) f) env kvs := fun F H σ R => by
  obtain ⟨v, e, x⟩ := R.sl i _ h
  obtain ⟨a, dx, us, v', rfl, e2, e3, p, ks, rfl, rd, rk⟩ := rd_fld cf k hf nd hb x (Kn.refl _)
  refine ⟨p, ks, rk, R.bn.kn.rd rd, .inr ?_, fun H' R' Q q => ⟨_, e, a, _, dx, us, _, rfl, R'.bn.kn.ins e2, cf.c, cf.n, e3, q⟩⟩
  rcases rd with z | ⟨o, z⟩
  · exact ⟨_, nt_dK, z⟩
  · exact ⟨_, nt_frz, z⟩
/-! ### enumerate -/
def enumL {α : Type} (xs : List α) : List (Int × α) := xs.zipIdx.map fun p => ((p.2 : Int), p.1)
theorem enumL_length {α : Type} (xs : List α) : (enumL xs).length = xs.length := by
  unfold enumL
  rw [List.length_map, List.length_zipIdx]
theorem enumL_get {α : Type} (xs : List α) (i : Nat) : (enumL xs)[i]? = xs[i]?.map fun a => ((i : Int), a) := by
  unfold enumL
  rw [List.getElem?_map, List.getElem?_zipIdx]
  cases xs[i]? with
  | none => rfl
  | some a => simp
theorem w_enum {K : PySem.W.Frag} {B : Hp} {env : Env} {α : Type} {f : α → D} {te : TE} {xs : List α} (h : Ev K B te env (.im (eL f xs))) : EvF K B (iEnum K (tCons te tNil)) env ((enumL xs).map (eP eI f)) := fun F H σ R Q q =>
  h F H σ R _ fun v F' H' g r => by
    obtain ⟨a, ws, rfl, e, r⟩ := Rp.inv_lst r
    refine ⟨a, ws, rfl, .inl (.inl (g.kn.lst e)), ?_⟩
    have hl : ws.length = xs.length := by rw [r.length, List.length_map]
    have w : Walk (Ite K a) ((enumL xs).map (eP eI f)).length (fun H => SqL K H a ws) (YPair (fun i => some (.int (i : Nat))) (fun i => ws[i]?)) := by
      rw [List.length_map, enumL_length, ← hl]
      exact walk_enum
    refine q _ F' H' _ _ g w (fun H2 k => .inl (.inl (k.lst e))) fun i H1 x H2 hi y F1 k ff => ?_
    obtain ⟨T, x1, x2, rfl, hT, rfl, e1, e2⟩ := y
    cases e1
    obtain ⟨d, hd, rd⟩ := r.getV e2
    rw [List.getElem?_map] at hd
    obtain ⟨z, hz, rfl⟩ := Option.map_eq_some_iff.mp hd
    refine ⟨upd F1 T (.tup [.int (i : Nat), x2]), .tup [.int (i : Nat), f z], Gr.newF k hT, by rw [List.getElem?_map, enumL_get, hz] <;> rfl, ?_⟩
    have fk : Kn F' (upd F1 T (.tup [.int (i : Nat), x2])) := .of fun a u n z => by
      rw [upd_ne ((k.free hT).ne n (ff a u n z))]
      exact ff a u n z
    exact .tup (.inl (.inl upd_same)) (.cons (.int _) (.cons (rd.mono fk) .nil))
section
variable {σ ρ α β γ : Type} {K : PySem.W.Frag} {B H0 F0 F F' H H' : Hp} {st : L2.St} {env : Env} {i j l : Nat} {ta tb tc : TE} {W : WX} {u : TS} {ek : σ → Env} {er : RE ρ}
theorem so_par3 (f : α → Vl) (g : β → Vl) (f3 : γ → Vl) {a : α} {b : β} {c : γ} {k : α → β → γ → Pg σ ρ} (h1 : Ev K B ta env (f a)) (h2 : Ev K B tb env (g b)) (h3 : Ev K B tc env (f3 c)) (h : ∀ x y z, Sq K B W u (((env.set i (slA (f x))).set j (slA (g y))).set l (slA (f3 z))) ek er (k x y z)) :
    Sq K B W (tSeq (tPar3 i j l (tCons ta (tCons tb (tCons tc tNil)))) u) env ek er (lt3 (a, b, c) k) := fun o e => sx_seq fun H0 F0 F H st R D q =>
  h1 F H st R.e _ fun v F1 H1 g1 x1 => h2 F1 H1 st (R.e.step g1) _ fun w F2 H2 g2 x2 => h3 F2 H2 st ((R.e.step g1).step g2) _ fun z F3 H3 g3 x3 => ⟨v, w, z, rfl, q (.nx _) (h a b c o e) F3 H3 _ (((R.setV g1 x1).setV g2 x2).setV g3 x3)⟩
end
/-- lists of names, sorted -/
abbrev sortedL (xs : List (List Str)) : List (List Str) := sortO xs
theorem v_sortedL {K : PySem.W.Frag} {B : Hp} {env : Env} {te : TE} {rows : List (List Str)} (c : ∀ x ∈ rows, OkD (eL eS x)) (h : Ev K B te env (.ob (eL (eL eS) rows))) : Ev K B (tCB (rSortG K) (tCons te tNil)) env (.nw (oM (eL (eL eS) (sortedL rows)))) := by
  have z := v_sortedVia (f := eL eS) (xs := rows) (fun r : List Str => r) (fun r => r) (fun _ => rfl) (fun b => by
    show PyData.list (pyL _) = PyData.list (b.map PySem.W.Datum.toD)
    rw [pyL_map PySem.W.Datum.toD fun _ => rfl]) (.inr fun x hx ds e => by cases e) c h
  rw [List.map_id', List.map_id'] at z
  exact z
/-- a promise that none asks for -/
theorem fn_none {P : Program} {w : World} {K : PySem.W.Frag} {mg : Str → Option Value} {base : Heap} {CX : CXT} {k : Nat} {f : Addr} {fd : FuncData} {ps : List Str} {sp : Sp} (h : ∀ vs H Q E, ¬ sp vs H Q E) : FnOk P w K mg base CX k f fd ps sp :=
  ⟨fun vs H Q E z => absurd z (h vs H Q E), fun _ _ _ H _ _ vs Q E _ _ _ _ z => absurd z (h vs H Q E)⟩
theorem sf_none {α ρ : Type} {F : α → Pg Unit ρ} {en : α → List Vl} {er : ρ → Vl} {K : PySem.W.Frag} {rs : List Vl} {res : Res} (hF : ∀ a, F a = none) (s : SF F en er K rs res) : False := by
  cases s with
  | nx a h => rw [hF] at h; cases h
  | rt a r h => rw [hF] at h; cases h
  | ex a c h => rw [hF] at h; cases h
end NM
/-! enumerate of a tuple; None in a list of anything. -/
namespace PySem
open Sem (wp)
section
variable {prog : Program} {w : World} {A : Around} {E : Value → Shared → Prop} {s : Shared}
theorem meets_enumerate_newB1 {v : Value} {o : Obj} {H : Heap → Prop} (B : Begins v o H) :
    Meets (Builtin.«enumerate.__new__» ⟨[.type "enumerate", v], []⟩) (fun _ R s => H s.heap ∧
      R (.ok (.ret (.ref (s.heap.push o).objs.size))) { s with heap := (s.heap.push o).push { cls := .type "enumerate", data := .fields #[.none, .bool false, .ref s.heap.objs.size, rawInt 0, .none, .none] } }) :=
  .of_wp fun prog w A R s h => by
    obtain ⟨hp, g, d, tk, os⟩ := s; obtain ⟨h1, h⟩ := h
    have hsub := sub_enumerate
    have q1 : ∀ {A' : Around} {E : Value → Shared → Prop} {Q : Value → Shared → Prop}, Q (.ref hp.objs.size) ⟨hp.push o, g, d, tk, os⟩ → wpAny (model prog w) A' (pyIter v) Q E ⟨hp, g, d, tk, os⟩ :=
      fun q => B.iter prog w _ _ ⟨hp, g, d, tk, os⟩ _ h1 q
    wp_walk using q1
    refine wpAny_stack_any fun st => wpAny_pure ?_
    split
    · rename_i c _ _ _ _ _
      cases (c == Value.type "enumerate")
      · wp_walk using q1
        exact ⟨_, rfl, h⟩
      · wp_walk using q1
        exact ⟨_, rfl, h⟩
    · wp_walk using q1
      exact ⟨_, rfl, h⟩
theorem call_enumerate_tuple {l : Addr} {items : Array Value} {Q : Value → Shared → Prop} (hL : s.heap.IsTuple l items)
    (h : ∀ h', IsEnum h' (s.heap.objs.size + 1) s.heap.objs.size 0 .none → h'.IsTupleIter s.heap.objs.size l 0 → h'.objs.size = s.heap.objs.size + 2 →
      (∀ b o, s.heap.get? b = some o → h'.get? b = some o) → Q (.ref (s.heap.objs.size + 1)) { s with heap := h' }) :
    wpAny (model prog w) A (call (.type "enumerate") [.ref l]) Q E s := by
  refine callType_new F.called_enumerate (by decide) (F.typeCall_enumerate_1 _) (F.newCall_enumerate_1 _) (fun obj => F.args_object_init_2 obj _) F.entry_enumerate_new
    (meets_enumerate_newB1 (begins_tuple l items)) ⟨hL, ?_⟩
  have hz : (s.heap.push { cls := .type "tuple_iterator", data := .fields #[.ref l, .int 0 0] }).objs.size = s.heap.objs.size + 1 := Heap.size_push ..
  show _ ∧ _
  rw [hz]
  have he : IsEnum ((s.heap.push { cls := .type "tuple_iterator", data := .fields #[.ref l, .int 0 0] }).push
      { cls := .type "enumerate", data := .fields #[.none, .bool false, .ref s.heap.objs.size, rawInt 0, .none, .none] }) (s.heap.objs.size + 1) s.heap.objs.size 0 .none := by
    have := Heap.get?_push_size (s.heap.push { cls := .type "tuple_iterator", data := .fields #[.ref l, .int 0 0] })
      (o := { cls := .type "enumerate", data := .fields #[.none, .bool false, .ref s.heap.objs.size, rawInt 0, .none, .none] }) rfl
    rw [hz] at this; exact this
  refine ⟨⟨_, he, rfl⟩, h _ he ⟨_, Heap.get?_push_of_some _ (Heap.get?_push_size _ rfl), rfl, rfl⟩ (by rw [Heap.size_push, hz]) fun b o x => Heap.get?_push_of_some _ (Heap.get?_push_of_some _ x)⟩
end
end PySem
namespace NM
open PySem PySem.Spec PyProof.Rows L2
variable [Tbs]
/-- the tuple at a, each item in a new pair -/
def IteT (K : PySem.W.Frag) (a : Addr) : It :=
  ⟨fun i H => ∃ (xs : List V) (x : V), SqT K H a xs ∧ xs[i]? = some x, fun i H v H' => ∃ T x, v = .ref T ∧ H T = none ∧ H' = upd H T (.tup [.int (i : Nat), x]) ∧ ∀ xs, SqT K H a xs → xs[i]? = some x, fun i H => ∃ xs : List V, SqT K H a xs ∧ xs.length ≤ i⟩
theorem turn_enumT {P : Program} {w : World} {K : PySem.W.Frag} {elts : List Expr} {kk : Nat} {tpos : Pos} (a e it : Addr) :
    Turn P w K (.Tuple elts kk tpos) (IteT K a) [e, it] e (fun i h => (∃ old, IsEnum h e it ((i : Nat) : Int) old) ∧ h.IsTupleIter it a i ∧ e ≠ it) where
  mem := by simp
  obj := fun i h st b hb => by
    obtain ⟨⟨old, he⟩, ⟨o, ho, hc, hd⟩, _⟩ := st
    have e' : b = e ∨ b = it := by simpa using hb
    rcases e' with z | z
    · rw [z]; exact ⟨_, he, fun v q => nomatch q⟩
    · rw [z]; exact ⟨o, ho, fun v q => by rw [hd] at q; cases q⟩
  keep := fun i h h' st k => let ⟨⟨old, he⟩, hi, hne⟩ := st; ⟨⟨old, k e (by simp) _ he⟩, hi.at fun o q => k it (by simp) o q, hne⟩
  item := by
    intro X hP hw hK hc i pins s σ H E I hf st hg
    subst hP hw hK
    obtain ⟨⟨old, he⟩, hit, hne⟩ := st
    obtain ⟨xs, x, hq, hx⟩ := hg
    obtain ⟨its, rv, p, hz⟩ := I.tuple hq
    have p : s.heap.IsTuple a its.toArray := p
    obtain ⟨u, hu, ru⟩ := rv.get hx
    have hel : e < s.heap.objs.size := Heap.lt_size he
    have hil : it < s.heap.objs.size := by obtain ⟨_, q, _⟩ := hit; exact Heap.lt_size q
    have hai : a ≠ it := fun z => by
      obtain ⟨o1, h1, c1, _⟩ := p
      obtain ⟨o2, h2, c2, _⟩ := hit
      rw [z, h2] at h1
      cases h1
      rw [c2] at c1
      injection c1 with z3
      exact absurd z3 (by decide)
    have hae : e ≠ a := fun z => by
      obtain ⟨o1, h1, c1, _⟩ := p
      rw [← z, he] at h1
      cases h1
      injection c1 with z3
      exact absurd z3 (by decide)
    have hi : i < its.toArray.size := by
      rw [List.size_toArray]
      exact (List.getElem?_eq_some_iff.mp hu).1
    refine wpAny_pyNext_enum_itemD (Draws.tuple (A := X.A.in1) (show X.A.in1.handled = none from I.ok.hd hc) it a hai its.toArray) he ⟨hit, p⟩ hi hne (by simp [hne, hae]) fun x' h' tk hx' ho hst hT hsz hk => ?_
    obtain ⟨hit', _⟩ := hst
    have ex : x' = u := by
      have q : its[i]? = some x' := by simpa using hx'
      rw [hu] at q
      exact (Option.some.inj q).symm
    subst ex
    refine ⟨_, rfl, wpAny_letOwnedTupleGo_enum (s := { s with heap := h', toks := tk + 1 }) ho fun h'' he' sb => ?_⟩
    have hT2 : h''.get? s.heap.objs.size = some { cls := .type "tuple", data := .seq #[.int i tk, x'] } := (sb.2 _ (Nat.ne_of_gt hel)).trans hT
    have new : ObjOk X.prog X.w (upd H s.heap.objs.size (.tup [.int (i : Nat), x])) h'' s.heap.objs.size (.tup [.int (i : Nat), x]) :=
      ⟨by show 2 ≤ sizeLine; decide, [.int i tk, x'], .cons ⟨_, rfl⟩ (.cons ru .nil), ⟨_, hT2, rfl, _, rfl⟩⟩
    have I1 : Inv X pins σ (upd H s.heap.objs.size (.tup [.int (i : Nat), x])) { s with heap := h'', toks := tk + 1 } :=
      I.turnedNew (ch := [e, it]) (fun b ob hb q => (sb.2 b (fun z => hb (by simp [z]))).trans (hk b ob (fun z => hb (by simp [z])) (fun z => hb (by simp [z])) q)) hf (Nat.le_refl _) new
    refine ⟨.ref s.heap.objs.size, _, I1, rfl, ⟨_, x, rfl, I.hok.fresh (Nat.le_refl _), rfl, fun ys hy => by rw [I.tuple_inj hy hq]; exact hx⟩, ⟨⟨x', ?_⟩, hit'.at fun o q => (sb.2 it (Ne.symm hne)).trans q, hne⟩, fun b hb => ?_⟩
    · have e1 : ((i + 1 : Nat) : Int) = (i : Int) + 1 := by omega
      rw [e1]; exact he'
    · have hb' : b < s.heap.objs.size := by
        have e' : b = e ∨ b = it := by simpa using hb
        rcases e' with z | z
        · rw [z]; exact hel
        · rw [z]; exact hil
      rw [upd_ne (Nat.ne_of_lt hb')]
      exact (hf b hb).1
  done := by
    intro X hP hw hK hc i pins s σ H E I hf st hg
    subst hP hw hK
    obtain ⟨⟨old, he⟩, hit, hne⟩ := st
    obtain ⟨xs, hq, hx⟩ := hg
    obtain ⟨its, rv, p, hz⟩ := I.tuple hq
    have p : s.heap.IsTuple a its.toArray := p
    obtain ⟨f0, f1, f2, f3, f4, f5⟩ := hf it (by simp)
    have hl := rv.length
    have hT : s.TypeIs (.ref e) "enumerate" := ⟨_, he, rfl⟩
    unfold pyNext
    refine wpAny_bind (wpAny_attempt (wpAny_callSpecial?_slot (name := Str.ofString "__next__") hT F.slot_enumerate_next
      (wpAny_call_entry F.slot_enumerate_next hT F.entry_enumerate_next ?_ (F.args_enumerate_next_1 _))))
    show wpAny _ _ (field (.ref e) 2 >>= _) _ _ _
    refine wpAny_bind (wpAny_field he rfl (x := .ref it) rfl ?_)
    refine wpAny_bind (wpAny_nextOf_tuple_end (I.ok.hd hc) hit p (by simp; omega) fun h' x he' hx' => ?_)
    obtain ⟨o, ho, hc⟩ := hx'
    refine wpAny_bind (wpAny_isInstance (T := "StopIteration") (b := true) ⟨o, ho, hc⟩ isSubtype_stop ?_)
    exact wpAny_pure ⟨rfl, I.turned (t' := s.toks) (fun b o hb q => he' b o hb q) f0 f1 f3 f4 f5⟩
  self := fun A i s Q E st h => let ⟨⟨_, he⟩, _⟩ := st; wpAny_pyIter_enum he h
def iEnumT (K : PySem.W.Frag) (ta : TA) : TI := fun σ H R => ta σ H fun vs H1 => ∃ a xs, vs = [.ref a] ∧ SqT K H1 a xs ∧ R (IteT K a) H1
theorem pi_enumT {X : Cx} {e : Expr} {ta : TA} {p pos tpos : Pos} {elts : List Expr} {kk : Nat} (hg : Gl X "enumerate") (hm : X.mg "enumerate" = none) (ha : PA X [e] ta) (hs : starEach [e] X.env = [(false, eval e X.env)] := by rfl) :
    PI X (.Tuple elts kk tpos) (.Call (.Name "enumerate" p) [e] [] pos) (iEnumT X.K ta) := by
  refine ⟨fun pins s σ H R I h => ?_⟩
  refine Call_ (ld_blt I hg hm boot_enumerate (PyProof.Rows.callWith_type1 (thn (ha.run pos pins s σ H _ I h) fun us s1 ⟨vs, H1, I1, r1, q1⟩ => ?_) hs rfl))
  obtain ⟨a, xs, ex, hq, q⟩ := q1
  subst ex
  cases r1 with
  | cons r rr =>
    cases rr
    cases r
    obtain ⟨its, rv, p', hz⟩ := I1.tuple hq
    refine call_enumerate_tuple (show s1.heap.IsTuple a its.toArray from p') fun h' he hit hsz hk => wpAny_pyIter_enum he ?_
    have I2 : Inv X pins σ H1 { s1 with heap := h' } := I1.kept (t' := s1.toks) hk
    refine ⟨s1.heap.objs.size + 1, [s1.heap.objs.size + 1, s1.heap.objs.size], _, _, H1, rfl, I2, turn_enumT a (s1.heap.objs.size + 1) s1.heap.objs.size, ⟨⟨.none, he⟩, hit, Nat.succ_ne_self _⟩, fun b hb => ?_, q⟩
    have e' : b = s1.heap.objs.size + 1 ∨ b = s1.heap.objs.size := by simpa using hb
    have hle : s1.heap.objs.size ≤ b := by
      rcases e' with z | z
      · rw [z]; exact Nat.le_add_right _ _
      · rw [z]; exact Nat.le_refl _
    exact I1.fpOk hle (I1.hok.fresh hle)
theorem walk_enumT {K : PySem.W.Frag} {a : Addr} {xs : List V} : Walk (IteT K a) xs.length (fun H => SqT K H a xs) (YPair (fun i => some (.int (i : Nat))) (fun i => xs[i]?)) := by
  refine ⟨fun i _ hi q => ⟨xs, xs[i], q, by simp [hi]⟩, fun _ q => ⟨xs, q, Nat.le_refl _⟩, fun i H v H' _ q y => ?_⟩
  obtain ⟨T, x, h1, h2, h3, h4⟩ := y
  exact ⟨T, .int (i : Nat), x, h1, h2, h3, rfl, h4 xs q⟩
theorem w_enumT {K : PySem.W.Frag} {B : Hp} {env : Env} {α : Type} {f : α → D} {te : TE} {xs : List α} (h : Ev K B te env (.im (eR f xs))) : EvF K B (iEnumT K (tCons te tNil)) env ((enumL xs).map (eP eI f)) := fun F H σ R Q q =>
  h F H σ R _ fun v F' H' g r => by
    obtain ⟨a, ws, rfl, e, r⟩ := Rp.inv_tup r
    have sq : ∀ {H2 : Hp}, Kn F' H2 → SqT K H2 a ws := fun k => k.sqT e
    refine ⟨a, ws, rfl, sq g.kn, ?_⟩
    have hl : ws.length = xs.length := by rw [r.length, List.length_map]
    have w : Walk (IteT K a) ((enumL xs).map (eP eI f)).length (fun H => SqT K H a ws) (YPair (fun i => some (.int (i : Nat))) (fun i => ws[i]?)) := by
      rw [List.length_map, enumL_length, ← hl]
      exact walk_enumT
    refine q _ F' H' _ _ g w (fun H2 k => sq k) fun i H1 x H2 hi y F1 k ff => ?_
    obtain ⟨T, x1, x2, rfl, hT, rfl, e1, e2⟩ := y
    cases e1
    obtain ⟨d, hd, rd⟩ := r.getV e2
    rw [List.getElem?_map] at hd
    obtain ⟨z, hz, rfl⟩ := Option.map_eq_some_iff.mp hd
    refine ⟨upd F1 T (.tup [.int (i : Nat), x2]), .tup [.int (i : Nat), f z], Gr.newF k hT, by rw [List.getElem?_map, enumL_get, hz] <;> rfl, ?_⟩
    have fk : Kn F' (upd F1 T (.tup [.int (i : Nat), x2])) := .of fun a u n z => by
      rw [upd_ne ((k.free hT).ne n (ff a u n z))]
      exact ff a u n z
    exact .tup (.inl (.inl upd_same)) (.cons (.int _) (.cons (rd.mono fk) .nil))
/-! ### a list of one's own is walked -/
def oLz (w : V) (ws : List V) (d : D) : Ow := ⟨fun K F O v => v = w ∧ ∃ q ds, w = .ref q ∧ d = .lst ds ∧ O q = some (.lst ws) ∧ RpL K F ws ds, fun {K F F' O v} k h => by
  obtain ⟨e, q, ds, a, b, c, r⟩ := h
  exact ⟨e, q, ds, a, b, c, r.mono k⟩⟩
section
variable {α σ ρ : Type} {K : PySem.W.Frag} {B H0 F0 F H : Hp} {env : Env} {W : WX} {g : TG} {ek : σ → Env} {er : RE ρ} {st : L2.St}
theorem oLz_see {w : V} {ws : List V} {d : D} : Sees (oLz w ws d) (oB d) := fun K F O H v k h => by
  obtain ⟨rfl, q, ds, rfl, rfl, c, r⟩ := h
  exact ⟨q, ws, rfl, k.lst c, r⟩
theorem set_at {e : Env} {j : Nat} {s : Sl} (h : e[j]? = some s) : e.set j s = e := by
  obtain ⟨h1, h2⟩ := List.getElem?_eq_some_iff.mp h
  rw [← h2]
  exact List.set_getElem_self h1
theorem RelS.other {j : Nat} {v : V} {o : Ow} (R : RelS K B H0 F0 F H st env) (hv : st[j]? = some (some v)) (hj : j < env.length) (h : ∀ O, (∃ Os, RelW K B H0 F0 F H st env Os ∧ Os j = O) → o.φ K F O v) : RelS K B H0 F0 F H st (env.set j (.ow o)) := by
  obtain ⟨Os, R⟩ := R
  exact ⟨_, R.write (O' := Os j) hj hv (fun _ _ => rfl) (fun a u e => ⟨u, e⟩) (fun a u e => R.oh j a u e) (h _ ⟨Os, R, rfl⟩)⟩
theorem so_forLO {f : α → D} {xs : List α} (j : Nat) (ts : α → List D) {js : List Nat} {tb : TS} {step : α → σ → Pg σ ρ} {s0 : σ} (hj : ∀ s, (ek s)[j]? = some (.ow (oM (eL f xs)))) (hg : ∀ x, x ∈ xs → EvG K g js (f x) (ts x))
    (hb : ∀ w ws x, x ∈ xs → ∀ s, Sq K B W tb (setD ((ek s).set j (.ow (oLz w ws (eL f xs)))) js (ts x)) (fun s => (ek s).set j (.ow (oLz w ws (eL f xs)))) er (step x s)) (he : env = ek s0) :
    Sq K B W (tFor (iList K (tVar j)) g tb) env ek er (forO step xs s0) := fun o e => by
  subst he
  intro H0 F0 F H st ⟨Os, R⟩ D q
  obtain ⟨v, ev, l, ws, e1, hO, r⟩ := R.sl j _ (hj s0)
  have hH := (R.oh j l _ hO).1
  have bn := R.bn
  have jl : ∀ s, j < (ek s).length := fun s => (List.getElem?_eq_some_iff.mp (hj s)).1
  have R0 : RelS K B H0 F0 F H st ((ek s0).set j (.ow (oLz v ws (eL f xs)))) := ⟨_, R.write (O' := Os j) (jl s0) ev (fun _ _ => rfl) (fun a u e => ⟨u, e⟩) (fun a u e => R.oh j a u e) ⟨rfl, l, _, e1, rfl, hO, r⟩⟩
  obtain ⟨H1, g1, R1, _⟩ := R0.enter
  have un : ∀ {F2 H2 st2 s}, RelS K B H1 F F2 H2 st2 ((ek s).set j (.ow (oLz v ws (eL f xs)))) → H2 l = some (.lst ws) ∧ RpL K F2 ws (xs.map f) ∧ RelS K B H1 F F2 H2 st2 (ek s) := fun {F2 H2 st2 s} ⟨Os2, R2⟩ => by
    obtain ⟨v2, ev2, e2, l2, ds2, e3, e4, hO2, r2⟩ := R2.sl j _ (List.getElem?_set_self (jl s))
    subst e2
    rw [e1] at e3
    cases e3
    cases e4
    refine ⟨(R2.oh j l _ hO2).1, r2, ?_⟩
    have z := R2.write (o := oM (eL f xs)) (O' := Os2 j) (by rw [List.length_set]; exact jl s) ev2 (fun _ _ => rfl) (fun a u e => ⟨u, e⟩) (fun a u e => R2.oh j a u e) ⟨l, ws, e1, hO2, r2⟩
    rw [List.set_set, set_at (hj s)] at z
    exact ⟨_, z⟩
  have lenX : ws.length = xs.length := by rw [r.length, List.length_map]
  refine ⟨v, ev, l, e1, ⟨ws, .inl (.inl hH)⟩, ?_⟩
  refine for_it (walk_list (xs := ws)) (fun i st1 H2 => ∃ s F1, forO step (xs.drop i) s = some o ∧ RelS K B H1 F F1 H2 st1 ((ek s).set j (.ow (oLz v ws (eL f xs))))) ⟨s0, F, e, R1⟩ ?_ ?_ ?_
  · intro i st1 H2 _ ⟨s, F1, _, R2⟩
    exact .inl (.inl (un R2).1)
  · intro i x st1 H2 H3 hi ⟨s, F1, hs, R2⟩ y
    obtain ⟨rfl, hx⟩ := y
    obtain ⟨d, hd, rd⟩ := (un R2).2.1.getV hx
    rw [List.getElem?_map] at hd
    obtain ⟨z, hz, rfl⟩ := Option.map_eq_some_iff.mp hd
    obtain ⟨hi2, hx'⟩ := List.getElem?_eq_some_iff.mp hz
    have hzm := List.mem_of_getElem? hz
    obtain ⟨us, ru, kg⟩ := hg z hzm F1 H3 x R2.e.kn rd
    refine kg st1 _ ?_
    rw [List.drop_eq_getElem_cons hi2, hx'] at hs
    unfold forO at hs
    cases qs : step z s with
    | none => rw [qs] at hs; cases hs
    | some w' =>
      rw [qs] at hs
      refine hb v ws z hzm s w' qs H1 F F1 H3 _ (R2.sets ru) _ fun o' p => ?_
      cases w' with
      | nx s' => obtain rfl := p; exact fun F3 H4 st3 R3 => ⟨s', F3, hs, R3⟩
      | ct s' => obtain rfl := p; exact fun F3 H4 st3 R3 => ⟨s', F3, hs, R3⟩
      | bk s' =>
        obtain rfl := p
        cases hs
        exact fun F3 H4 st3 R3 => q (.nx (ek s')) rfl F3 H4 st3 ((un R3).2.2.leave g1 bn)
      | rt r =>
        cases hs
        obtain ⟨e2, rfl, wk⟩ := p
        have z := q (.rt (er.er r) e2) ⟨e2, rfl, wk⟩
        revert z
        generalize er.er r = rr
        intro z
        cases rr <;> exact z.leave g1 bn
      | ex c =>
        cases hs
        obtain ⟨e2, rfl, wk⟩ := p
        exact (q (.ex _ e2) ⟨e2, rfl, wk⟩).leave g1 bn
  · intro st1 H2 ⟨s, F1, hs, R2⟩
    have z : xs.drop ws.length = [] := by rw [lenX]; exact List.drop_eq_nil_of_le (Nat.le_refl _)
    rw [z] at hs
    cases hs
    exact q (.nx (ek s)) rfl F1 H2 st1 ((un R2).2.2.leave g1 bn)
end
/-! ### None in a list of anything, tuples of tuples -/
theorem room65 {k : Nat} {A : Around} (r : Room k A) : A.units + 65 < cLine := by
  have := r.un
  omega
section
variable {K : PySem.W.Frag} {B : Hp} {env : Env} {ta tb te : TE} {tl th : TO}
theorem eqv_non {n : Nat} {d : D} (h : Okd n d) : PyData.eqv (py d) .none = isNon d := by
  have e := eqv_okd (m := 0) (e := .non) h trivial
  have e2 : deq d .non = isNon d := by
    cases d with
    | non => exact deq_self _
    | _ => exact deq_ne fun z => by cases z
  exact e.trans e2
theorem anyN : ∀ ds : List D, (∀ d ∈ ds, ∃ m, Okd m d) → (pyL ds).any (fun z => PyData.eqv z (py D.non)) = ds.any isNon
  | [], _ => rfl
  | d :: ds, od2 => by
    have e1 : pyL (d :: ds) = py d :: pyL ds := rfl
    obtain ⟨m, hm⟩ := od2 d List.mem_cons_self
    rw [e1, List.any_cons, List.any_cons, anyN ds fun x hx => od2 x (List.mem_cons_of_mem _ hx)]
    congr 1
    exact eqv_non hm
theorem v_inN {ds : List D} (od : OkD (eL eA ds)) (ha : Ev K B ta env (.ob .non)) (hb : Ev K B tb env (.ob (eL eA ds))) : Ev K B (tOp (rInD K) ta tb) env (.im (.bl (ds.any isNon))) := by
  obtain ⟨n, hn, od⟩ := od
  have on : Okd 0 (.non) := trivial
  refine ev_op ha hb fun B F H x y k ⟨_, hx⟩ ⟨_, hy⟩ Q q => ?_
  have ex : (py (eL eA ds)) = .list (pyL ds) := by
    show PyData.list (pyL (ds.map eA)) = _
    rw [List.map_id']
  have h1 := ob_dp k od hy
  have h2 := okd_shaped od (by omega)
  rw [ex] at h1 h2
  refine ⟨_, _, ob_dp k on hx, h1, okd_shaped on (by decide), h2, ?_⟩
  have e : (pyL ds).any (fun z => PyData.eqv z (py D.non)) = ds.any isNon := by
    have od2 : ∀ d ∈ ds, ∃ m, Okd m d := by
      cases n with
      | zero => exact fun d _ => absurd od (by intro z; exact z.elim)
      | succ n => exact fun d hd => ⟨n, od d (by rw [List.map_id']; exact hd)⟩
    exact anyN ds od2
  rw [e]
  exact q _ F H (Gr.refl k) (Rp.bl _)
theorem v_tupR {α : Type} {f : α → D} {xs : List α} (h : Ev K B te env (.im (eR f xs))) : Ev K B (tCB (rTupC K) (tCons te tNil)) env (.im (eR f xs)) :=
  ev_cb (ea_cons h ea_nil) fun B F H vs k ⟨H0, hv⟩ Q q => by
    cases hv with
    | cons hv hn =>
      cases hn
      obtain ⟨p, ws, rfl, ex, r⟩ := Rp.inv_tup hv
      exact ⟨p, ws, rfl, .inr ⟨k.sqT ex, q _ F H (Gr.refl k) (.tup ex r)⟩⟩
/-- what is of one kind -/
theorem v_castL {α : Type} [Inhabited α] {f : α → D} {xs : List D} (c : ∀ x ∈ xs, IsE f x) (h : Ev K B te env (.nw (oM (eL eA xs)))) : Ev K B te env (.nw (oM (eL f (xs.map (unE f))))) := by
  have e : eL f (xs.map (unE f)) = eL eA xs := by
    show D.lst _ = D.lst _
    rw [List.map_map]
    congr 1
    exact List.map_congr_left fun x hx => unE_eq (c x hx)
  rw [e]
  exact h
theorem v_sl3 {α β γ : Type} {f : α → D} {g : β → D} {k : γ → D} {p : α × β × γ} (h : Ev K B te env (.im (e3 f g k p))) (hl : EvO K B tl env (some 1)) (hh : EvO K B th env none) : Ev K B (tSl (rSlA K) te tl th) env (.im (eP g k (p.2.1, p.2.2))) := ev_slT (ds := [f p.1, g p.2.1, k p.2.2]) h hl hh
theorem v_cat21 {α β γ : Type} {g : α → D} {k : β → D} {f : γ → D} {p : α × β} {x : γ} (ha : Ev K B ta env (.im (eP g k p))) (hb : Ev K B tb env (.im (eR f [x]))) : Ev K B (tOp (rCatA K) ta tb) env (.im (e3 g k f (p.1, p.2, x))) :=
  ev_catT (ds := [g p.1, k p.2]) (es := [f x]) ha hb (by show 2 + 1 ≤ sizeLine; decide)
end
section
open PySem.W (T3)
variable {K : PySem.W.Frag} {B : Hp} {env : Env} {te : TE}
/-- triples, sorted -/
def toT3 (p : Int × Str × Str) : T3 Int Str Str := ⟨p.1, p.2.1, p.2.2⟩
def frT3 (t : T3 Int Str Str) : Int × Str × Str := (t.a, t.b, t.c)
def sortedT3 (xs : List (Int × Str × Str)) : List (Int × Str × Str) := (sortO (xs.map toT3)).map frT3
theorem v_sortedT3 {xs : List (Int × Str × Str)} (c : ∀ x ∈ xs, OkD (e3 eI eS eS x)) (h : Ev K B te env (.ob (eL (e3 eI eS eS) xs))) : Ev K B (tCB (rSortG K) (tCons te tNil)) env (.nw (oM (eL (e3 eI eS eS) (sortedT3 xs)))) :=
  v_sortedVia toT3 frT3 (fun _ => rfl) (fun b => rfl) (.inl fun x hx => ⟨_, _, rfl⟩) c h
end
end NM
/-! Shortest ways from near to near; plain lists, no program. -/
namespace NM
open PySem PySem.W
variable {ν : Type} [DecidableEq ν] [DatumOrd ν] [TotO ν]
/-! ### the order of lists of one length -/
theorem listLt_cons (x y : ν) (a b : List ν) : listLt (x :: a) (y :: b) = if x = y then listLt a b else DatumOrd.lt x y := by
  first
  | rfl
  | (simp only [listLt])
theorem listLt_snoc (x y : ν) : ∀ a : List ν, listLt (a ++ [x]) (a ++ [y]) = DatumOrd.lt x y
  | [] => by
    show listLt [x] [y] = _
    rw [listLt_cons]
    by_cases e : x = y
    · rw [if_pos e, e, TotO.irr]
      first | rfl | simp [listLt]
    · rw [if_neg e]
  | z :: a => by
    show listLt (z :: (a ++ [x])) (z :: (a ++ [y])) = _
    rw [listLt_cons, if_pos rfl, listLt_snoc x y a]
theorem listLt_app {x y : List ν} : ∀ {a b : List ν}, a.length = b.length → listLt a b = true → listLt (a ++ x) (b ++ y) = true
  | [], [], _, h => by
    have : listLt ([] : List ν) [] = false := by first | rfl | simp [listLt]
    rw [this] at h
    cases h
  | u :: a, v :: b, hl, h => by
    show listLt (u :: (a ++ x)) (v :: (b ++ y)) = true
    rw [listLt_cons] at h ⊢
    by_cases e : u = v
    · rw [if_pos e] at h ⊢
      exact listLt_app (Nat.succ.inj hl) h
    · rw [if_neg e] at h ⊢
      exact h
  | [], _ :: _, hl, _ => nomatch hl
  | _ :: _, [], hl, _ => nomatch hl
/-- not less, and no less item behind it: not less -/
theorem notLt_snoc {a b : List ν} {x y : ν} (hl : a.length = b.length) (h : listLt a b = false) (hx : a = b → DatumOrd.lt x y = false) : listLt (a ++ [x]) (b ++ [y]) = false := by
  by_cases e : a = b
  · subst e
    rw [listLt_snoc]
    exact hx rfl
  · have h2 : listLt b a = true := by
      rcases TotO.tot (α := List ν) a b with z | z | z
      · exact absurd z e
      · have : listLt a b = true := z
        rw [h] at this
        cases this
      · exact z
    have h3 : DatumOrd.lt (b ++ [y]) (a ++ [x]) = true := listLt_app (x := [y]) (y := [x]) hl.symm h2
    exact TotO.asym h3
theorem list_anti {a b : List ν} (h1 : listLt a b = false) (h2 : listLt b a = false) : a = b := by
  rcases TotO.tot (α := List ν) a b with z | z | z
  · exact z
  · have : listLt a b = true := z
    rw [h1] at this
    cases this
  · have : listLt b a = true := z
    rw [h2] at this
    cases this
/-! ### steps -/
variable {nr : ν → ν → Bool} {S : List ν}
/-- x is n steps from a -/
inductive Ws (nr : ν → ν → Bool) (S : List ν) (a : ν) : Nat → ν → Prop
  | zero (h : a ∈ S) : Ws nr S a 0 a
  | succ {n : Nat} {x y : ν} (h : Ws nr S a n x) (hy : y ∈ S) (e : nr x y = true) : Ws nr S a (n + 1) y
/-- .. and no fewer -/
def Ds (nr : ν → ν → Bool) (S : List ν) (a : ν) (n : Nat) (x : ν) : Prop := Ws nr S a n x ∧ ∀ m, m < n → ¬ Ws nr S a m x
theorem Ws.l {a x : ν} {n : Nat} (h : Ws nr S a n x) : a ∈ S := by
  induction h with
  | zero h => exact h
  | succ _ _ _ ih => exact ih
theorem Ws.r {a x : ν} {n : Nat} (h : Ws nr S a n x) : x ∈ S := by
  cases h with
  | zero h => exact h
  | succ _ h _ => exact h
theorem Ws.cons {a b x : ν} {n : Nat} (ha : a ∈ S) (e : nr a b = true) (h : Ws nr S b n x) : Ws nr S a (n + 1) x := by
  induction h with
  | zero h => exact .succ (.zero ha) h e
  | succ _ hy e' ih => exact .succ ih hy e'
theorem Ws.symm (sy : ∀ a b, nr a b = nr b a) {a x : ν} {n : Nat} (h : Ws nr S a n x) : Ws nr S x n a := by
  induction h with
  | zero h => exact .zero h
  | succ _ hy e ih => exact .cons hy (by rw [sy]; exact e) ih
theorem Ds.symm (sy : ∀ a b, nr a b = nr b a) {a x : ν} {n : Nat} (h : Ds nr S a n x) : Ds nr S x n a := ⟨h.1.symm sy, fun m hm z => h.2 m hm (z.symm sy)⟩
theorem Ws.cn {a x : ν} {n : Nat} (h : Ws nr S a n x) : Cn nr S a x := by
  induction h with
  | zero h => exact .refl a h
  | succ _ hy e ih => exact .step ih hy e
theorem Ws.of_cn {a x : ν} (h : Cn nr S a x) : ∃ n, Ws nr S a n x := by
  induction h with
  | refl a h => exact ⟨0, .zero h⟩
  | step _ hc e ih =>
    obtain ⟨n, z⟩ := ih
    exact ⟨n + 1, .succ z hc e⟩
theorem Ds.least {a x : ν} : ∀ {n : Nat}, Ws nr S a n x → ∃ m, m ≤ n ∧ Ds nr S a m x := by
  intro n
  induction n using Nat.strongRecOn with
  | ind n ih =>
    intro h
    by_cases q : ∃ m, m < n ∧ Ws nr S a m x
    · obtain ⟨m, h1, h2⟩ := q
      obtain ⟨k, h3, h4⟩ := ih m h1 h2
      exact ⟨k, by omega, h4⟩
    · exact ⟨n, Nat.le_refl _, h, fun m hm z => q ⟨m, hm, z⟩⟩
theorem Ds.uniq {a x : ν} {n m : Nat} (h1 : Ds nr S a n x) (h2 : Ds nr S a m x) : n = m := by
  rcases Nat.lt_trichotomy n m with h | h | h
  · exact absurd h1.1 (h2.2 n h)
  · exact h
  · exact absurd h2.1 (h1.2 m h)
theorem Ds.zero {a x : ν} (h : Ds nr S a 0 x) : x = a := by
  cases h.1 with
  | zero _ => rfl
theorem Ds.start {a : ν} (h : a ∈ S) : Ds nr S a 0 a := ⟨.zero h, fun m hm => absurd hm (Nat.not_lt_zero m)⟩
/-- the one ahead on a shortest way -/
theorem Ds.pred {a y : ν} {n : Nat} (h : Ds nr S a (n + 1) y) : ∃ x, Ds nr S a n x ∧ nr x y = true := by
  obtain ⟨h1, h2⟩ := h
  cases h1 with
  | @succ _ x _ w hy e => exact ⟨x, ⟨w, fun m hm z => h2 (m + 1) (by omega) (.succ z hy e)⟩, e⟩
theorem Ds.next {a x y : ν} {n : Nat} (h : Ds nr S a n x) (hy : y ∈ S) (e : nr x y = true) (no : ∀ i, i ≤ n → ¬ Ds nr S a i y) : Ds nr S a (n + 1) y := by
  refine ⟨.succ h.1 hy e, fun m hm z => ?_⟩
  obtain ⟨k, h1, h2⟩ := Ds.least z
  exact no k (by omega) h2
theorem Ds.all {a x : ν} : ∀ {n : Nat}, Ds nr S a n x → ∀ i, i ≤ n → ∃ y, Ds nr S a i y
  | 0, h, i, hi => by
    rw [Nat.le_zero.mp hi]
    exact ⟨x, h⟩
  | n + 1, h, i, hi => by
    by_cases e : i = n + 1
    · rw [e]
      exact ⟨x, h⟩
    · obtain ⟨y, hy, _⟩ := h.pred
      exact hy.all i (by omega)
/-- a neighbour is at most one step farther -/
theorem Ds.near {a x y : ν} {n m : Nat} (h : Ds nr S a n x) (h2 : Ds nr S a m y) (e : nr x y = true) : m ≤ n + 1 := by
  by_cases q : m ≤ n + 1
  · exact q
  · exact absurd (Ws.succ h.1 h2.1.r e) (h2.2 (n + 1) (by omega))
/-! ### ways as lists -/
/-- from near to near, within S -/
def Pth (nr : ν → ν → Bool) (S : List ν) : List ν → Prop
  | [] => True
  | [x] => x ∈ S
  | x :: y :: r => x ∈ S ∧ nr x y = true ∧ Pth nr S (y :: r)
theorem Pth.snoc {y z : ν} : ∀ {p : List ν}, Pth nr S (p ++ [y]) → z ∈ S → nr y z = true → Pth nr S (p ++ [y] ++ [z])
  | [], h, hz, e => ⟨h, e, hz⟩
  | [x], h, hz, e => ⟨h.1, h.2.1, Pth.snoc (p := []) h.2.2 hz e⟩
  | x :: w :: r, h, hz, e => ⟨h.1, h.2.1, Pth.snoc (p := w :: r) h.2.2 hz e⟩
theorem Pth.init {z : ν} : ∀ {p : List ν}, Pth nr S (p ++ [z]) → Pth nr S p
  | [], _ => trivial
  | [x], h => h.1
  | x :: w :: r, h => ⟨h.1, h.2.1, Pth.init (p := w :: r) h.2.2⟩
theorem Pth.last {y z : ν} : ∀ {p : List ν}, Pth nr S (p ++ [y] ++ [z]) → nr y z = true ∧ z ∈ S ∧ y ∈ S
  | [], h => ⟨h.2.1, h.2.2, h.1⟩
  | [x], h => Pth.last (p := []) h.2.2
  | x :: w :: r, h => Pth.last (p := w :: r) h.2.2
/-- a list that begins by a and ends by x, of so many steps -/
structure Way (nr : ν → ν → Bool) (S : List ν) (a : ν) (n : Nat) (x : ν) (p : List ν) : Prop where
  pth : Pth nr S p
  hd : p.head? = some a
  lst : p.getLast? = some x
  len : p.length = n + 1
theorem Way.ne {a x : ν} {n : Nat} {p : List ν} (h : Way nr S a n x p) : p ≠ [] := fun z => by
  have := h.len
  rw [z] at this
  cases this
theorem Way.start {a : ν} (h : a ∈ S) : Way nr S a 0 a [a] := ⟨h, rfl, rfl, rfl⟩
theorem Way.split {a x : ν} {n : Nat} {p : List ν} (h : Way nr S a n x p) : ∃ q, p = q ++ [x] := by
  have ne := h.ne
  refine ⟨p.dropLast, ?_⟩
  have e := h.lst
  rw [List.getLast?_eq_some_getLast ne] at e
  cases e
  exact (List.dropLast_concat_getLast ne).symm
theorem Way.next {a x y : ν} {n : Nat} {p : List ν} (h : Way nr S a n x p) (hy : y ∈ S) (e : nr x y = true) : Way nr S a (n + 1) y (p ++ [y]) := by
  obtain ⟨q, rfl⟩ := h.split
  refine ⟨h.pth.snoc hy e, ?_, by rw [List.getLast?_append]; rfl, by rw [List.length_append, h.len]; rfl⟩
  rw [List.head?_append, h.hd]
  rfl
theorem Way.prev {a y : ν} {n : Nat} {p : List ν} (h : Way nr S a (n + 1) y p) : ∃ x q, p = q ++ [y] ∧ Way nr S a n x q ∧ nr x y = true ∧ y ∈ S := by
  obtain ⟨q, rfl⟩ := h.split
  have hl := h.len
  rw [List.length_append, List.length_singleton] at hl
  have hq : q ≠ [] := fun z => by rw [z] at hl; simp at hl
  have hx := List.dropLast_concat_getLast hq
  generalize q.dropLast = r at hx
  generalize q.getLast hq = x at hx
  subst hx
  obtain ⟨l1, l2, l3⟩ := h.pth.last
  refine ⟨x, r ++ [x], rfl, ⟨h.pth.init, ?_, by rw [List.getLast?_append]; rfl, by omega⟩, l1, l2⟩
  have := h.hd
  rw [List.head?_append] at this
  cases e : (r ++ [x]).head? with
  | none => simp at e
  | some b => rw [e] at this; exact this
theorem Way.ws {a x : ν} : ∀ {n : Nat} {p : List ν}, Way nr S a n x p → Ws nr S a n x
  | 0, p, h => by
    obtain ⟨q, rfl⟩ := h.split
    have hl := h.len
    rw [List.length_append, List.length_singleton] at hl
    have : q = [] := List.length_eq_zero_iff.mp (by omega)
    subst this
    have hd := h.hd
    cases hd
    exact .zero h.pth
  | n + 1, p, h => by
    obtain ⟨y, q, _, w, e, hx⟩ := h.prev
    exact .succ w.ws hx e
/-- the least of all shortest ways -/
structure Lw (nr : ν → ν → Bool) (S : List ν) (a : ν) (n : Nat) (x : ν) (p : List ν) : Prop where
  way : Way nr S a n x p
  ds : Ds nr S a n x
  le : ∀ q, Way nr S a n x q → listLt q p = false
theorem Lw.uniq {a x : ν} {n m : Nat} {p q : List ν} (h1 : Lw nr S a n x p) (h2 : Lw nr S a m x q) : p = q := by
  have e := h1.ds.uniq h2.ds
  subst e
  exact list_anti (h2.le p h1.way) (h1.le q h2.way)
theorem Lw.start {a : ν} (h : a ∈ S) : Lw nr S a 0 a [a] := ⟨.start h, .start h, fun q hq => by
  obtain ⟨r, rfl⟩ := hq.split
  have hl := hq.len
  rw [List.length_append, List.length_singleton] at hl
  have : r = [] := List.length_eq_zero_iff.mp (by omega)
  subst this
  exact TotO.irr (α := List ν) [a]⟩
/-- one step on: the least of those that come to y -/
theorem Lw.next {a y : ν} {n : Nat} {p : List ν} (ds : Ds nr S a (n + 1) y) (w : Way nr S a (n + 1) y p) (h : ∀ x r, Lw nr S a n x r → nr x y = true → listLt (r ++ [y]) p = false) (ex : ∀ x, Ds nr S a n x → ∃ r, Lw nr S a n x r) : Lw nr S a (n + 1) y p := by
  refine ⟨w, ds, fun q hq => ?_⟩
  obtain ⟨x, q', rfl, wq, e, hy⟩ := hq.prev
  have dx : Ds nr S a n x := ⟨wq.ws, fun m hm z => ds.2 (m + 1) (by omega) (.succ z hy e)⟩
  obtain ⟨r, lr⟩ := ex x dx
  have h1 := h x r lr e
  have h2 : listLt (q' ++ [y]) (r ++ [y]) = false := notLt_snoc (by rw [wq.len, lr.way.len]) (lr.le q' wq) fun _ => TotO.irr y
  rcases TotO.tot (α := List ν) (q' ++ [y]) p with z | z | z
  · rw [z]
    exact TotO.irr (α := List ν) p
  · rcases TotO.tot (α := List ν) (q' ++ [y]) (r ++ [y]) with z2 | z2 | z2
    · rw [z2]
      exact h1
    · have : listLt (q' ++ [y]) (r ++ [y]) = true := z2
      rw [h2] at this
      cases this
    · have := TotO.tr _ _ _ z2 z
      have h1' : listLt (r ++ [y]) p = true := this
      rw [h1] at h1'
      cases h1'
  · exact TotO.asym z
/-! ### going by the steps that are left -/
/-- so far no other shortest way is less; c stands n steps from the goal -/
structure Gr2 (nr : ν → ν → Bool) (S : List ν) (a g : ν) (L : Nat) (c : ν) (f : List ν) : Prop where
  way : ∃ i n, i + n = L ∧ Way nr S a i c f ∧ Ds nr S g n c
  le : ∀ q, Way nr S a L g q → listLt (q.take f.length) f = false
/-- what stands at a place of a shortest way -/
theorem Way.at {a g : ν} (sy : ∀ a b, nr a b = nr b a) : ∀ {L : Nat} {q : List ν}, Way nr S a L g q → ∀ i, i ≤ L → ∃ x, q[i]? = some x ∧ Ws nr S g (L - i) x ∧ x ∈ S
  | L, q, h, i, hi => by
    by_cases e : i = L
    · subst e
      obtain ⟨r, rfl⟩ := h.split
      have hl := h.len
      rw [List.length_append, List.length_singleton] at hl
      have gS := h.ws.r
      have hr : i - r.length = 0 := by omega
      refine ⟨g, by rw [List.getElem?_append_right (by omega), hr]; rfl, by rw [Nat.sub_self]; exact .zero gS, gS⟩
    · cases L with
      | zero => omega
      | succ L =>
        obtain ⟨x, q', rfl, w, e2, hg⟩ := h.prev
        obtain ⟨y, h1, h2, h3⟩ := w.at sy i (by omega)
        have hl := w.len
        refine ⟨y, by rw [List.getElem?_append_left (by omega)]; exact h1, ?_, h3⟩
        have e3 : L + 1 - i = (L - i) + 1 := by omega
        rw [e3]
        exact (Ws.succ (h2.symm sy) hg e2).symm sy
theorem Way.adj {a g : ν} : ∀ {L : Nat} {q : List ν}, Way nr S a L g q → ∀ i x y, q[i]? = some x → q[i + 1]? = some y → nr x y = true
  | 0, q, h, i, x, y, hx, hy => by
    have := (List.getElem?_eq_some_iff.mp hy).1
    have := h.len
    omega
  | L + 1, q, h, i, x, y, hx, hy => by
    obtain ⟨z, q', rfl, w, e2, hg⟩ := h.prev
    have hl := w.len
    by_cases e : i = L
    · subst e
      rw [List.getElem?_append_left (by omega)] at hx
      rw [List.getElem?_append_right (by omega), hl, Nat.sub_self] at hy
      cases hy
      obtain ⟨r, rfl⟩ := w.split
      rw [List.length_append, List.length_singleton] at hl
      rw [List.getElem?_append_right (by omega)] at hx
      have : i - r.length = 0 := by omega
      rw [this] at hx
      cases hx
      exact e2
    · have hlt : i + 1 < q'.length := by
        have := (List.getElem?_eq_some_iff.mp hy).1
        rw [List.length_append, List.length_singleton] at this
        omega
      rw [List.getElem?_append_left (by omega)] at hx
      rw [List.getElem?_append_left hlt] at hy
      exact w.adj i x y hx hy
theorem Gr2.start {a g : ν} {L : Nat} (h : Ds nr S g L a) : Gr2 nr S a g L a [a] := by
  refine ⟨⟨0, L, by omega, .start h.1.r, h⟩, fun q hq => ?_⟩
  have hd := hq.hd
  cases q with
  | nil => cases hd
  | cons x r =>
    cases hd
    exact TotO.irr (α := List ν) [a]
theorem Gr2.step {a g c x : ν} {L n : Nat} {f : List ν} (sy : ∀ a b, nr a b = nr b a) (G : Gr2 nr S a g L c f) (hc : Ds nr S g (n + 1) c) (hx : Ds nr S g n x) (e : nr c x = true) (le : ∀ y, nr c y = true → Ds nr S g n y → DatumOrd.lt y x = false) (hL : Ds nr S g L a) : Gr2 nr S a g L x (f ++ [x]) := by
  obtain ⟨⟨i, m, him, w, dm⟩, l⟩ := G
  have em := dm.uniq hc
  subst em
  refine ⟨⟨i + 1, n, by omega, w.next hx.1.r e, hx⟩, fun q hq => ?_⟩
  have hf := w.len
  rw [List.length_append, List.length_singleton]
  have hql := hq.len
  obtain ⟨y, hy, wy, yS⟩ := hq.at sy (i + 1) (by omega)
  have et : q.take (f.length + 1) = q.take f.length ++ [y] := by
    rw [List.take_succ, hf, hy]
    rfl
  rw [et]
  refine notLt_snoc (by rw [List.length_take]; omega) (l q hq) fun eq => ?_
  -- the same so far
  have hc2 : q[i]? = some c := by
    have z : (q.take f.length)[i]? = some c := by
      rw [eq]
      obtain ⟨r, rfl⟩ := w.split
      rw [List.length_append, List.length_singleton] at hf
      rw [List.getElem?_append_right (by omega)]
      have : i - r.length = 0 := by omega
      rw [this]
      rfl
    rw [List.getElem?_take] at z
    split at z
    · exact z
    · cases z
  have ecy := hq.adj i c y hc2 hy
  have e2 : L - (i + 1) = n := by omega
  rw [e2] at wy
  refine le y ecy ⟨wy, fun k hk z => ?_⟩
  exact hc.2 (k + 1) (by omega) (.succ z hc.1.r (by rw [sy]; exact ecy))
theorem Gr2.done {a g : ν} {L : Nat} {f : List ν} (sy : ∀ a b, nr a b = nr b a) (G : Gr2 nr S a g L g f) (hL : Ds nr S g L a) : Lw nr S a L g f := by
  obtain ⟨⟨i, n, e, w, d⟩, l⟩ := G
  have : n = 0 := d.uniq (.start d.1.r)
  subst this
  have : i = L := by omega
  subst this
  refine ⟨w, hL.symm sy, fun q hq => ?_⟩
  have := l q hq
  rw [w.len, ← hq.len, List.take_length] at this
  exact this
end NM
namespace NM
open PySem PySem.Spec PyProof.Rows L2
variable [Tbs]
noncomputable def F_Map___init__ (_ : Unit) (_ : Unit)  : Pg PMap (Unit × PMap) :=
  lt ([] : (List (Str × (Int × Int)))) fun points =>
  gd ((((irange 0 ((13 : Int) + (1 : Int)))).length ≤ sizeLine)) <|
  lt ((irange 0 ((13 : Int) + (1 : Int))).map (fun size' : Int => ([] : (List (Str × Str))))) fun heads =>
  some (.nx (PMap.mk points heads))
noncomputable abbrev U_Map___init__ : Unit → Unit → Pg PMap (Unit × PMap) := F_Map___init__
abbrev en_Map___init__ : Unit → List D := fun a => []
abbrev er_Map___init__ : Unit → D := fun r => eU r
noncomputable def F_Map_point (self : PMap) (name : NM.D) : Pg Unit (Int × Int) :=
  gd ((Short name)) <|
  cond (isName name) (
  gd (IsE eS name) <|
  lt (unE eS name) fun name =>
  cond (!(kget (self).points name).isSome) (nn (some (.ex "BadName"))) (
  gd (((kget (self).points name).isSome = true)) <|
  some (.rt ((kget (self).points name).getD default)))) (some (.ex "BadName"))
noncomputable abbrev U_Map_point : PMap × NM.D → Pg Unit (Int × Int) := fun a => F_Map_point a.1 a.2
abbrev en_Map_point : PMap × NM.D → List Vl := fun a => [.lo (bMap a.1), .im (eA a.2)]
abbrev er_Map_point : (Int × Int) → Vl := fun r => .im ((eP eI eI) r)
theorem fl_Map_point (a : PMap × NM.D) : ∀ r ∈ en_Map_point a, Flat r := by
  intro r h
  simp only [List.mem_cons, List.not_mem_nil, or_false] at h
  rcases h with rfl | rfl <;> trivial
noncomputable def F_Map_join (self : PMap) (name : Str) (size : Int) : Pg PMap (Unit × PMap) :=
  gd ((0 ≤ size ∧ size < (self).heads.length ∧ (self).heads.length ≤ sizeLine)) <|
  lt (List.getD (self).heads (size).toNat default) fun heads =>
  gd (((kget (self).points name).isSome = true)) <|
  lt ((kget (self).points name).getD default) fun point =>
  lt ([] : (List (Str × Bool))) fun near =>
  bindO (forO (fun x s => quiet ((fun (other : Str) => fun (near : (List (Str × Bool))) => 
  gd (((kget (self).points other).isSome = true) ∧ (0 ≤ size ∧ size < 14)) <|
  bindO (cond (decide ((chebP point ((kget (self).points other).getD default)) ≤ (reachI size))) (gd (((kget heads other).isSome = true) ∧ (near.length < sizeLine)) <|
  lt (kput near ((kget heads other).getD default) true) fun near =>
  some (.nx near)) (some (.nx near))) (fun (near : (List (Str × Bool))) => 
  some (.nx near))) x s)) (keysOf heads) near) (fun (near : (List (Str × Bool))) => 
  gd ((([name]).length + ((keysOf near)).length ≤ sizeLine) ∧ (([name] ++ (keysOf near)) ≠ [] ∧ ∀ x ∈ ([name] ++ (keysOf near)), PyData.strOk x = true)) <|
  lt (minS ([name] ++ (keysOf near))) fun least =>
  gd (((heads).length < sizeLine)) <|
  lt ((kput heads name least)) fun heads =>
  bindO (forO (fun (other : Str) => fun (heads : (List (Str × Str))) => 
  gd (((kget heads other).isSome = true)) <|
  bindO (cond (kget near ((kget heads other).getD default)).isSome (gd (((heads).length < sizeLine)) <|
  lt ((kput heads other least)) fun heads =>
  some (.nx heads)) (some (.nx heads))) (fun (heads : (List (Str × Str))) => 
  some (.nx heads))) (keysOf heads) heads) (fun (heads : (List (Str × Str))) => 
  lt { self with heads := List.set (self).heads (size).toNat heads } fun self =>
  some (.nx self)))
noncomputable abbrev U_Map_join : PMap → Str × Int → Pg PMap (Unit × PMap) := fun m a => F_Map_join m a.1 a.2
abbrev en_Map_join : Str × Int → List D := fun a => [eS a.1, eI a.2]
abbrev er_Map_join : Unit → D := fun r => eU r
noncomputable def F_Map_put (self : PMap) (name : NM.D) (point : NM.D) : Pg PMap (Unit × PMap) :=
  gd ((Short name)) <|
  cond (isName name) (
  gd (IsE eS name) <|
  lt (unE eS name) fun name =>
  cond ((kget (self).points name).isSome || (decide ((60 : Int) ≤ (((self).points).length : Int)))) (nn (some (.ex "BadName"))) (
  gd ((Short point)) <|
  cond (isPoint point) (
  gd (IsE (eP eI eI) point) <|
  lt (unE (eP eI eI) point) fun point =>
  gd ((((self).points).length < sizeLine)) <|
  lt ({ self with points := (kput (self).points name point) }) fun self =>
  bindO (forO (fun (size : Int) => fun (self : PMap) => 
  gd ((IsNx (F_Map_join self name size))) <|
  lt ((nxO (F_Map_join self name size))) fun self =>
  some (.nx self)) (irange 0 ((13 : Int) + (1 : Int))) self) (fun (self : PMap) => 
  some (.nx self))) (some (.ex "BadPoint")))) (some (.ex "BadName"))
noncomputable abbrev U_Map_put : PMap → NM.D × NM.D → Pg PMap (Unit × PMap) := fun m a => F_Map_put m a.1 a.2
abbrev en_Map_put : NM.D × NM.D → List D := fun a => [eA a.1, eA a.2]
abbrev er_Map_put : Unit → D := fun r => eU r
noncomputable def F_Map_names_at (self : PMap) (head : NM.D) (size : NM.D) : Pg Unit (List Str) :=
  gd ((Short head)) <|
  cond (isName head) (
  gd (IsE eS head) <|
  lt (unE eS head) fun head =>
  gd ((Short size)) <|
  cond (isSize size) (
  gd (IsE eI size) <|
  lt (unE eI size) fun size =>
  gd ((0 ≤ size ∧ size < ((self).heads).length ∧ ((self).heads).length ≤ sizeLine)) <|
  lt (List.getD (self).heads (size).toNat default) fun heads =>
  gd (((!(kget heads head).isSome) = false → ((kget heads head).isSome = true))) <|
  cond ((!(kget heads head).isSome) || (!decide (((kget heads head).getD default) = head))) (nn (some (.ex "BadHeap"))) (
  gd (((heads).length ≤ sizeLine) ∧ (∀ name', name' ∈ (keysOf heads) → ((kget heads name').isSome = true)) ∧ (∀ x ∈ (((keysOf heads).filter (fun name' : Str => (decide (((kget heads name').getD default) = head)))).map (fun name' : Str => name')), PyData.strOk x = true)) <|
  some (.rt (sortO (((keysOf heads).filter (fun name' : Str => (decide (((kget heads name').getD default) = head)))).map (fun name' : Str => name')))))) (some (.ex "BadSize"))) (some (.ex "BadName"))
noncomputable abbrev U_Map_names_at : PMap × NM.D × NM.D → Pg Unit (List Str) := fun a => F_Map_names_at a.1 a.2.1 a.2.2
abbrev en_Map_names_at : PMap × NM.D × NM.D → List Vl := fun a => [.lo (bMap a.1), .im (eA a.2.1), .im (eA a.2.2)]
abbrev er_Map_names_at : (List Str) → Vl := fun r => .im ((eL eS) r)
theorem fl_Map_names_at (a : PMap × NM.D × NM.D) : ∀ r ∈ en_Map_names_at a, Flat r := by
  intro r h
  simp only [List.mem_cons, List.not_mem_nil, or_false] at h
  rcases h with rfl | rfl | rfl <;> trivial
noncomputable def F_Map_heaps (self : PMap) (size : NM.D) : Pg Unit (List Str) :=
  gd ((Short size)) <|
  cond (isSize size) (
  gd (IsE eI size) <|
  lt (unE eI size) fun size =>
  gd ((0 ≤ size ∧ size < ((self).heads).length ∧ ((self).heads).length ≤ sizeLine)) <|
  lt (List.getD (self).heads (size).toNat default) fun heads =>
  gd (((heads).length ≤ sizeLine) ∧ (∀ name', name' ∈ (keysOf heads) → ((kget heads name').isSome = true)) ∧ (∀ x ∈ (((keysOf heads).filter (fun name' : Str => (decide (((kget heads name').getD default) = name')))).map (fun name' : Str => name')), PyData.strOk x = true)) <|
  some (.rt (sortO (((keysOf heads).filter (fun name' : Str => (decide (((kget heads name').getD default) = name')))).map (fun name' : Str => name'))))) (some (.ex "BadSize"))
noncomputable abbrev U_Map_heaps : PMap × NM.D → Pg Unit (List Str) := fun a => F_Map_heaps a.1 a.2
abbrev en_Map_heaps : PMap × NM.D → List Vl := fun a => [.lo (bMap a.1), .im (eA a.2)]
abbrev er_Map_heaps : (List Str) → Vl := fun r => .im ((eL eS) r)
theorem fl_Map_heaps (a : PMap × NM.D) : ∀ r ∈ en_Map_heaps a, Flat r := by
  intro r h
  simp only [List.mem_cons, List.not_mem_nil, or_false] at h
  rcases h with rfl | rfl <;> trivial
noncomputable def F_Map_names (self : PMap) (head : NM.D) (size : NM.D) : Pg Unit (List Str) :=
  callO (F_Map_names_at self head size) fun r => some (.rt r)
noncomputable abbrev U_Map_names : PMap × NM.D × NM.D → Pg Unit (List Str) := fun a => F_Map_names a.1 a.2.1 a.2.2
abbrev en_Map_names : PMap × NM.D × NM.D → List Vl := fun a => [.lo (bMap a.1), .im (eA a.2.1), .im (eA a.2.2)]
abbrev er_Map_names : (List Str) → Vl := fun r => .im ((eL eS) r)
theorem fl_Map_names (a : PMap × NM.D × NM.D) : ∀ r ∈ en_Map_names a, Flat r := by
  intro r h
  simp only [List.mem_cons, List.not_mem_nil, or_false] at h
  rcases h with rfl | rfl | rfl <;> trivial
noncomputable def F_Map_opened (self : PMap) (head : NM.D) (size : NM.D) : Pg Unit (Int × (List Str)) :=
  callO (F_Map_names_at self head size) fun names =>
  gd (IsE eS head) <|
  lt (unE eS head) fun head =>
  gd (IsE eI size) <|
  lt (unE eI size) fun size =>
  lt size fun less =>
  bindO (whileO (fun (less : Int) => True) (fun (less : Int) => (decide ((0 : Int) < less))) (fun (less : Int) => 
  lt (less - (1 : Int)) fun less =>
  gd ((0 ≤ less ∧ less < ((self).heads).length ∧ ((self).heads).length ≤ sizeLine)) <|
  lt (List.getD (self).heads (less).toNat default) fun heads =>
  gd (((names).length ≤ sizeLine) ∧ (∀ name', name' ∈ names → ((kget heads name').isSome = true)) ∧ (∀ x ∈ ((names.filter (fun name' : Str => (decide (((kget heads name').getD default) = name')))).map (fun name' : Str => name')), PyData.strOk x = true)) <|
  lt (sortO ((names.filter (fun name' : Str => (decide (((kget heads name').getD default) = name')))).map (fun name' : Str => name'))) fun rows =>
  cond (decide ((1 : Int) < ((rows).length : Int))) (nn (some (.rt (less, rows)))) (
  some (.nx less))) less) (fun (less : Int) => 
  some (.rt ((0 : Int), [head])))
noncomputable abbrev U_Map_opened : PMap × NM.D × NM.D → Pg Unit (Int × (List Str)) := fun a => F_Map_opened a.1 a.2.1 a.2.2
abbrev en_Map_opened : PMap × NM.D × NM.D → List Vl := fun a => [.lo (bMap a.1), .im (eA a.2.1), .im (eA a.2.2)]
abbrev er_Map_opened : (Int × (List Str)) → Vl := fun r => .im ((eP eI (eL eS)) r)
theorem fl_Map_opened (a : PMap × NM.D × NM.D) : ∀ r ∈ en_Map_opened a, Flat r := by
  intro r h
  simp only [List.mem_cons, List.not_mem_nil, or_false] at h
  rcases h with rfl | rfl | rfl <;> trivial
noncomputable def F_tree_of : Nat → PMap → Str → Int → Pg Unit NM.D
  | 0 => fun _ _ _ => none
  | n_ + 1 => fun (one : PMap) (head : Str) (size : Int) =>
  gd ((IsRt (F_Map_opened one (eS head) (eI size)))) <|
  lt2 (valO (F_Map_opened one (eS head) (eI size))) fun less heads =>
  cond (decide (((heads).length : Int) = (1 : Int))) (nn (gd ((IsRt (F_Map_names one (eS head) (eI size)))) <|
  some (.rt ((eR eS) (valO (F_Map_names one (eS head) (eI size))))))) (
  gd (((heads).length ≤ sizeLine) ∧ (∀ other', other' ∈ heads → (IsRt (F_tree_of n_ one other' less)))) <|
  some (.rt ((eP eI (eR eA)) (less, (heads.map (fun other' : Str => (valO (F_tree_of n_ one other' less))))))))
noncomputable abbrev U_tree_of : Nat → PMap × Str × Int → Pg Unit NM.D := fun n a => F_tree_of n a.1 a.2.1 a.2.2
abbrev en_tree_of : PMap × Str × Int → List Vl := fun a => [.lo (bMap a.1), .im (eS a.2.1), .im (eI a.2.2)]
abbrev er_tree_of : NM.D → Vl := fun r => .im (eA r)
theorem fl_tree_of (a : PMap × Str × Int) : ∀ r ∈ en_tree_of a, Flat r := by
  intro r h
  simp only [List.mem_cons, List.not_mem_nil, or_false] at h
  rcases h with rfl | rfl | rfl <;> trivial
noncomputable def F_trees (one : PMap) : Pg Unit (List NM.D) :=
  gd ((IsRt (F_Map_heaps one (eI (13 : Int)))) ∧ (((valO (F_Map_heaps one (eI (13 : Int))))).length ≤ sizeLine) ∧ (∀ head', head' ∈ (valO (F_Map_heaps one (eI (13 : Int)))) → (IsRt (F_tree_of 16 one head' (13 : Int))))) <|
  some (.rt ((valO (F_Map_heaps one (eI (13 : Int)))).map (fun head' : Str => (valO (F_tree_of 16 one head' (13 : Int))))))
noncomputable abbrev U_trees : PMap → Pg Unit (List NM.D) := fun a => F_trees a
abbrev en_trees : PMap → List Vl := fun a => [.lo (bMap a)]
abbrev er_trees : (List NM.D) → Vl := fun r => .nw (oM ((eL eA) r))
theorem fl_trees (a : PMap) : ∀ r ∈ en_trees a, Flat r := by
  intro r h
  simp only [List.mem_cons, List.not_mem_nil, or_false] at h
  rcases h with rfl <;> trivial
noncomputable def F_widest (one : PMap) (head : NM.D) (size : NM.D) : Pg Unit (Str × Str × Int) :=
  gd ((IsRt (F_Map_names one head size))) <|
  lt (valO (F_Map_names one head size)) fun names =>
  gd (((L2.atI names (0 : Int)).isSome = true) ∧ ((L2.atI names (0 : Int)).isSome = true)) <|
  lt (((L2.atI names (0 : Int)).getD default), ((L2.atI names (0 : Int)).getD default), (0 : Int)) fun best =>
  bindO (forO (fun (x_at_ : (Int × Str)) => fun (best : (Str × Str × Int)) => 
  bindO (forO (fun (other : Str) => fun (best : (Str × Str × Int)) => 
  gd ((IsRt (F_Map_point one (eS x_at_.2))) ∧ (IsRt (F_Map_point one (eS other)))) <|
  lt (chebP (valO (F_Map_point one (eS x_at_.2))) (valO (F_Map_point one (eS other)))) fun own =>
  bindO (cond (decide ((best).2.2 < own)) (lt (x_at_.2, other, own) fun best =>
  some (.nx best)) (some (.nx best))) (fun (best : (Str × Str × Int)) => 
  some (.nx best))) (cutD names (some (x_at_.1 + (1 : Int))) none) best) (fun (best : (Str × Str × Int)) => 
  some (.nx best))) (enumL names) best) (fun (best : (Str × Str × Int)) => 
  some (.rt best))
noncomputable abbrev U_widest : PMap × NM.D × NM.D → Pg Unit (Str × Str × Int) := fun a => F_widest a.1 a.2.1 a.2.2
abbrev en_widest : PMap × NM.D × NM.D → List Vl := fun a => [.lo (bMap a.1), .im (eA a.2.1), .im (eA a.2.2)]
abbrev er_widest : (Str × Str × Int) → Vl := fun r => .im ((e3 eS eS eI) r)
theorem fl_widest (a : PMap × NM.D × NM.D) : ∀ r ∈ en_widest a, Flat r := by
  intro r h
  simp only [List.mem_cons, List.not_mem_nil, or_false] at h
  rcases h with rfl | rfl | rfl <;> trivial
noncomputable def F__law_name (j : Int) : Pg Unit Str :=
  gd (((("abcdefghijklmnopqrstuvwxyz" : Str)).length ≤ sizeLine) ∧ ((L2.atI (("abcdefghijklmnopqrstuvwxyz" : Str)).cps.toList (j / (26 : Int))).isSome = true) ∧ ((("abcdefghijklmnopqrstuvwxyz" : Str)).length ≤ sizeLine) ∧ ((L2.atI (("abcdefghijklmnopqrstuvwxyz" : Str)).cps.toList (j % (26 : Int))).isSome = true) ∧ (((strAt ("abcdefghijklmnopqrstuvwxyz" : Str) (j / (26 : Int)))).length + ((strAt ("abcdefghijklmnopqrstuvwxyz" : Str) (j % (26 : Int)))).length ≤ sizeLine)) <|
  some (.rt ((strAt ("abcdefghijklmnopqrstuvwxyz" : Str) (j / (26 : Int))) ++ (strAt ("abcdefghijklmnopqrstuvwxyz" : Str) (j % (26 : Int)))))
noncomputable abbrev U__law_name : Int → Pg Unit Str := fun a => F__law_name a
abbrev en__law_name : Int → List Vl := fun a => [.im (eI a)]
abbrev er__law_name : Str → Vl := fun r => .im (eS r)
theorem fl__law_name (a : Int) : ∀ r ∈ en__law_name a, Flat r := by
  intro r h
  simp only [List.mem_cons, List.not_mem_nil, or_false] at h
  rcases h with rfl <;> trivial
noncomputable def F__law_few (more : Int) (many : Int) : Pg Unit (List (Str × (Int × Int))) :=
  lt ([] : (List (Str × (Int × Int)))) fun found =>
  gd ((0 < (many + (1 : Int))) ∧ (-(2 ^ 62) ≤ (more % (many + (1 : Int))) ∧ (more % (many + (1 : Int))) < 2 ^ 62)) <|
  bindO (forO (fun (j : Int) => fun (found : (List (Str × (Int × Int)))) => 
  gd ((0 ≤ ((40 : Int) + j) ∧ ((40 : Int) + j) ≤ 1000)) <|
  lt (drawnI more ((40 : Int) + j)) fun here =>
  lt (ptXY (here / (1024 : Int))) fun pointH =>
  bindO (cond ((!(found).isEmpty) && (decide ((0 : Int) < (here % (3 : Int))))) (gd (((found).length < 64) ∧ (0 < ((found).length : Int)) ∧ ((L2.atI (sortO (keysOf found)) ((here / (8 : Int)) % ((found).length : Int))).isSome = true) ∧ ((kget found ((L2.atI (sortO (keysOf found)) ((here / (8 : Int)) % ((found).length : Int))).getD default)).isSome = true)) <|
  lt ((kget found ((L2.atI (sortO (keysOf found)) ((here / (8 : Int)) % ((found).length : Int))).getD default)).getD default) fun nearH =>
  gd (((L2.atI [(1 : Int), (2 : Int), (5 : Int), (40 : Int)] ((here / (64 : Int)) % (4 : Int))).isSome = true)) <|
  lt ((L2.atI [(1 : Int), (2 : Int), (5 : Int), (40 : Int)] ((here / (64 : Int)) % (4 : Int))).getD default) fun by_ =>
  gd ((CDiv here ((2 : Int) ^ ((20 : Int)).toNat)) ∧ (0 < (by_ + (1 : Int))) ∧ (CDivW here ((2 : Int) ^ ((30 : Int)).toNat)) ∧ (0 < (by_ + (1 : Int)))) <|
  lt ((min (4095 : Int) ((nearH).1 + ((here / ((2 : Int) ^ ((20 : Int)).toNat)) % (by_ + (1 : Int))))), (max (0 : Int) ((nearH).2 - ((here / ((2 : Int) ^ ((30 : Int)).toNat)) % (by_ + (1 : Int)))))) fun pointH =>
  some (.nx pointH)) (some (.nx pointH))) (fun (pointH : (Int × Int)) => 
  gd ((CDivW here ((2 : Int) ^ ((40 : Int)).toNat)) ∧ (IsRt (F__law_name ((here / ((2 : Int) ^ ((40 : Int)).toNat)) % (30 : Int)))) ∧ (found.length < sizeLine)) <|
  lt (kput found (valO (F__law_name ((here / ((2 : Int) ^ ((40 : Int)).toNat)) % (30 : Int)))) pointH) fun found =>
  some (.nx found))) (irange 0 (more % (many + (1 : Int)))) found) (fun (found : (List (Str × (Int × Int)))) => 
  some (.rt found))
noncomputable abbrev U__law_few : Int × Int → Pg Unit (List (Str × (Int × Int))) := fun a => F__law_few a.1 a.2
abbrev en__law_few : Int × Int → List Vl := fun a => [.im (eI a.1), .im (eI a.2)]
abbrev er__law_few : (List (Str × (Int × Int))) → Vl := fun r => .im ((eD (eP eI eI)) r)
theorem fl__law_few (a : Int × Int) : ∀ r ∈ en__law_few a, Flat r := by
  intro r h
  simp only [List.mem_cons, List.not_mem_nil, or_false] at h
  rcases h with rfl | rfl <;> trivial
noncomputable def F__law_heaps (points : (List (Str × (Int × Int)))) (size : Int) : Pg Unit (List (Str × (List Str))) :=
  gd (((points).length ≤ sizeLine)) <|
  lt (kmerge ((keysOf points).map (fun nameH' : Str => (nameH', nameH')))) fun called =>
  lt true fun ismore =>
  bindO (whileO (fun (s : (List (Str × Str)) × Bool) => match s with
 | (called, ismore) => True) (fun (s : (List (Str × Str)) × Bool) => match s with
 | (called, ismore) => ismore) (fun (s : (List (Str × Str)) × Bool) => match s with
 | (called, ismore) => 
  lt false fun ismore =>
  bindO (forO (fun (one : Str) => fun (s : (List (Str × Str)) × Bool) => match s with
 | (called, ismore) => 
  bindO (forO (fun (other : Str) => fun (s : (List (Str × Str)) × Bool) => match s with
 | (called, ismore) => 
  gd (((kget called other).isSome = true) ∧ ((kget called one).isSome = true) ∧ ((sLt ((kget called other).getD default) ((kget called one).getD default)) = true → ((kget points one).isSome = true) ∧ ((kget points other).isSome = true) ∧ (0 ≤ size ∧ size < 14))) <|
  bindO (cond ((sLt ((kget called other).getD default) ((kget called one).getD default)) && (nearP ((kget points one).getD default) ((kget points other).getD default) size)) (gd (((kget called other).isSome = true) ∧ (called.length < sizeLine)) <|
  lt (kput called one ((kget called other).getD default)) fun called =>
  lt true fun ismore =>
  some (.nx (called, ismore))) (some (.nx (called, ismore)))) (fun (s : (List (Str × Str)) × Bool) => match s with
 | (called, ismore) => 
  some (.nx (called, ismore)))) (keysOf points) (called, ismore)) (fun (s : (List (Str × Str)) × Bool) => match s with
 | (called, ismore) => 
  some (.nx (called, ismore)))) (keysOf points) (called, ismore)) (fun (s : (List (Str × Str)) × Bool) => match s with
 | (called, ismore) => 
  some (.nx (called, ismore)))) (called, ismore)) (fun (s : (List (Str × Str)) × Bool) => match s with
 | (called, ismore) => 
  lt ([] : (List (Str × (List Str)))) fun found =>
  gd (((called).length < 64)) <|
  bindO (forO (fun (nameH : Str) => fun (found : (List (Str × (List Str)))) => 
  gd (((kget called nameH).isSome = true) ∧ ((((kget found ((kget called nameH).getD default)).getD ([] : (List Str)))).length + ([nameH]).length ≤ sizeLine) ∧ ((kget called nameH).isSome = true) ∧ (found.length < sizeLine)) <|
  lt (kput found ((kget called nameH).getD default) (((kget found ((kget called nameH).getD default)).getD ([] : (List Str))) ++ [nameH])) fun found =>
  some (.nx found)) (sortO (keysOf called)) found) (fun (found : (List (Str × (List Str)))) => 
  some (.rt found)))
noncomputable abbrev U__law_heaps : (List (Str × (Int × Int))) × Int → Pg Unit (List (Str × (List Str))) := fun a => F__law_heaps a.1 a.2
abbrev en__law_heaps : (List (Str × (Int × Int))) × Int → List Vl := fun a => [.lo (oB ((eD (eP eI eI)) a.1)), .im (eI a.2)]
abbrev er__law_heaps : (List (Str × (List Str))) → Vl := fun r => .im ((eD (eR eS)) r)
theorem fl__law_heaps (a : (List (Str × (Int × Int))) × Int) : ∀ r ∈ en__law_heaps a, Flat r := by
  intro r h
  simp only [List.mem_cons, List.not_mem_nil, or_false] at h
  rcases h with rfl | rfl <;> trivial
noncomputable def F__law_map (points : (List (Str × (Int × Int)))) (more : Int) : Pg Unit PMap :=
  gd ((IsNx (F_Map___init__ () ()))) <|
  lt (nxO (F_Map___init__ () ())) fun found =>
  gd (((points).length < 64)) <|
  lt (sortO (keysOf points)) fun names =>
  bindO (whileO (fun (s : PMap × (List Str)) => match s with
 | (found, names) => (OkD ((eL eS) names)) ∧ (OkD ((eL eS) ([] : (List Str))))) (fun (s : PMap × (List Str)) => match s with
 | (found, names) => (!deq ((eL eS) names) ((eL eS) ([] : (List Str))))) (fun (s : PMap × (List Str)) => match s with
 | (found, names) => 
  gd ((0 ≤ ((names).length : Int) ∧ ((names).length : Int) ≤ 1000) ∧ (0 < ((names).length : Int)) ∧ (0 ≤ ((drawnI more ((names).length : Int)) % ((names).length : Int)) ∧ ((drawnI more ((names).length : Int)) % ((names).length : Int)) < names.length ∧ names.length ≤ sizeLine)) <|
  lt2 (List.eraseIdx names (((drawnI more ((names).length : Int)) % ((names).length : Int))).toNat, List.getD names (((drawnI more ((names).length : Int)) % ((names).length : Int))).toNat default) fun names nameH =>
  gd (((kget points nameH).isSome = true)) <|
  callM (F_Map_put found (eS nameH) ((eP eI eI) ((kget points nameH).getD default))) fun z => lt (z) fun found =>
  some (.nx (found, names))) (found, names)) (fun (s : PMap × (List Str)) => match s with
 | (found, names) => 
  some (.rt found))
noncomputable abbrev U__law_map : (List (Str × (Int × Int))) × Int → Pg Unit PMap := fun a => F__law_map a.1 a.2
abbrev en__law_map : (List (Str × (Int × Int))) × Int → List Vl := fun a => [.lo (oB ((eD (eP eI eI)) a.1)), .im (eI a.2)]
abbrev er__law_map : PMap → Vl := fun r => .nw (oMap r)
theorem fl__law_map (a : (List (Str × (Int × Int))) × Int) : ∀ r ∈ en__law_map a, Flat r := by
  intro r h
  simp only [List.mem_cons, List.not_mem_nil, or_false] at h
  rcases h with rfl | rfl <;> trivial
noncomputable def F__law_tree : Nat → (List (Str × (Int × Int))) → (List Str) → Int → Pg Unit NM.D
  | 0 => fun _ _ _ => none
  | n_ + 1 => fun (points : (List (Str × (Int × Int)))) (names : (List Str)) (size : Int) =>
  gd ((RgC (size - (1 : Int)) (-(1 : Int)) (-(1 : Int)) (size.toNat))) <|
  bindO (forO (fun (less : Int) => fun (_ : Unit) => 
  gd (((names).length ≤ sizeLine) ∧ (∀ nameH', nameH' ∈ names → ((kget points nameH').isSome = true))) <|
  lt (kmerge (names.map (fun nameH' : Str => (nameH', ((kget points nameH').getD default))))) fun some_ =>
  gd ((IsRt (F__law_heaps some_ less))) <|
  lt (valO (F__law_heaps some_ less)) fun rows =>
  cond (decide ((1 : Int) < ((rows).length : Int))) (nn (gd (((rows).length < 64) ∧ (((sortO (keysOf rows))).length ≤ sizeLine) ∧ (∀ head', head' ∈ (sortO (keysOf rows)) → ((kget rows head').isSome = true) ∧ (IsRt (F__law_tree n_ points ((kget rows head').getD default) less)))) <|
  some (.rt ((eP eI (eR eA)) (less, ((sortO (keysOf rows)).map (fun head' : Str => (valO (F__law_tree n_ points ((kget rows head').getD default) less))))))))) (
  some (.nx ()))) (irange3 (size - (1 : Int)) (-(1 : Int)) (-(1 : Int)) (size.toNat)) ()) (fun (_ : Unit) => 
  some (.rt ((eR eS) names)))
noncomputable abbrev U__law_tree : Nat → (List (Str × (Int × Int))) × (List Str) × Int → Pg Unit NM.D := fun n a => F__law_tree n a.1 a.2.1 a.2.2
abbrev en__law_tree : (List (Str × (Int × Int))) × (List Str) × Int → List Vl := fun a => [.lo (oB ((eD (eP eI eI)) a.1)), .im ((eR eS) a.2.1), .im (eI a.2.2)]
abbrev er__law_tree : NM.D → Vl := fun r => .im (eA r)
theorem fl__law_tree (a : (List (Str × (Int × Int))) × (List Str) × Int) : ∀ r ∈ en__law_tree a, Flat r := by
  intro r h
  simp only [List.mem_cons, List.not_mem_nil, or_false] at h
  rcases h with rfl | rfl | rfl <;> trivial
noncomputable def F__law_ends : Nat → (List NM.D) → Pg Unit (List Str)
  | 0 => fun _ => none
  | n_ + 1 => fun (treeH : (List NM.D)) =>
  gd ((OkD ((eR eA) treeH)) ∧ (OkD ((eR eA) ([] : (List NM.D)))) ∧ ((!deq ((eR eA) treeH) ((eR eA) ([] : (List NM.D)))) = true → ((L2.atI treeH (0 : Int)).isSome = true))) <|
  cond ((!deq ((eR eA) treeH) ((eR eA) ([] : (List NM.D)))) && (isInt (eA ((L2.atI treeH (0 : Int)).getD default)))) (nn (lt ([] : (List Str)) fun found =>
  gd (((L2.atI treeH (1 : Int)).isSome = true) ∧ (IsE (eR eA) ((L2.atI treeH (1 : Int)).getD default))) <|
  bindO (forO (fun (part : NM.D) => fun (found : (List Str)) => 
  gd ((IsE (eR eA) part) ∧ (IsRt (F__law_ends n_ (unE (eR eA) part))) ∧ ((found).length + ((valO (F__law_ends n_ (unE (eR eA) part)))).length ≤ sizeLine)) <|
  lt (found ++ (valO (F__law_ends n_ (unE (eR eA) part)))) fun found =>
  some (.nx found)) (unE (eR eA) ((L2.atI treeH (1 : Int)).getD default)) found) (fun (found : (List Str)) => 
  some (.rt found)))) (
  gd ((∀ x ∈ treeH, IsE eS x)) <|
  some (.rt ((treeH).map (unE eS))))
noncomputable abbrev U__law_ends : Nat → (List NM.D) → Pg Unit (List Str) := fun n a => F__law_ends n a
abbrev en__law_ends : (List NM.D) → List Vl := fun a => [.im ((eR eA) a)]
abbrev er__law_ends : (List Str) → Vl := fun r => .im ((eL eS) r)
theorem fl__law_ends (a : (List NM.D)) : ∀ r ∈ en__law_ends a, Flat r := by
  intro r h
  simp only [List.mem_cons, List.not_mem_nil, or_false] at h
  rcases h with rfl <;> trivial
noncomputable def F_law (script : List Int) : Pg Unit Bool :=
  gd ((-(2 ^ 62) ≤ (max (1 : Int) (min (2 : Int) (script.length : Int))) ∧ (max (1 : Int) (min (2 : Int) (script.length : Int))) < 2 ^ 62)) <|
  bindO (forO (fun (k : Int) => fun (_ : Unit) => 
  gd ((script.length ≤ 63 ∧ 0 ≤ k ∧ k ≤ 63) ∧ (0 ≤ k ∧ k ≤ 1000)) <|
  lt (drawnI (cellI script k) k) fun more =>
  gd ((IsRt (F__law_few more (14 : Int)))) <|
  lt (valO (F__law_few more (14 : Int))) fun points =>
  gd ((IsRt (F__law_map points more))) <|
  lt (valO (F__law_map points more)) fun one =>
  gd ((IsRt (F__law_heaps points (13 : Int)))) <|
  lt (valO (F__law_heaps points (13 : Int))) fun rows =>
  gd ((IsRt (F_trees one))) <|
  lt (valO (F_trees one)) fun told =>
  gd (((rows).length < 64) ∧ (((sortO (keysOf rows))).length ≤ sizeLine) ∧ (∀ head', head' ∈ (sortO (keysOf rows)) → ((kget rows head').isSome = true) ∧ (IsRt (F__law_tree 16 points ((kget rows head').getD default) (13 : Int)))) ∧ (OkD ((eL eA) told)) ∧ (OkD ((eL eA) ((sortO (keysOf rows)).map (fun head' : Str => (valO (F__law_tree 16 points ((kget rows head').getD default) (13 : Int)))))))) <|
  cond (!deq ((eL eA) told) ((eL eA) ((sortO (keysOf rows)).map (fun head' : Str => (valO (F__law_tree 16 points ((kget rows head').getD default) (13 : Int))))))) (nn (some (.rt false))) (
  lt ([] : (List Str)) fun flat =>
  bindO (forO (fun (treeH : NM.D) => fun (flat : (List Str)) => 
  gd ((IsE (eR eA) treeH) ∧ (IsRt (F__law_ends 16 (unE (eR eA) treeH))) ∧ ((flat).length + ((valO (F__law_ends 16 (unE (eR eA) treeH)))).length ≤ sizeLine)) <|
  lt (flat ++ (valO (F__law_ends 16 (unE (eR eA) treeH)))) fun flat =>
  some (.nx flat)) told flat) (fun (flat : (List Str)) => 
  gd ((∀ x ∈ flat, PyData.strOk x = true) ∧ ((points).length < 64) ∧ (OkD ((eL eS) (sortO flat))) ∧ (OkD ((eL eS) (sortO (keysOf points))))) <|
  cond (!deq ((eL eS) (sortO flat)) ((eL eS) (sortO (keysOf points)))) (nn (some (.rt false))) (
  bindO (forO (fun (size : Int) => fun (rows : (List (Str × (List Str)))) => 
  gd ((IsRt (F__law_heaps points size))) <|
  lt (valO (F__law_heaps points size)) fun rows =>
  bindO (forO (fun (head : Str) => fun (_ : Unit) => 
  lt ([] : (List (Int × Str × Str))) fun some_ =>
  gd (((kget rows head).isSome = true)) <|
  bindO (forO (fun (x_at_ : (Int × Str)) => fun (some_ : (List (Int × Str × Str))) => 
  gd (((kget rows head).isSome = true) ∧ (((cutD ((kget rows head).getD default) (some (x_at_.1 + (1 : Int))) none)).length ≤ sizeLine) ∧ (∀ its', its' ∈ (cutD ((kget rows head).getD default) (some (x_at_.1 + (1 : Int))) none) → ((kget points x_at_.2).isSome = true) ∧ ((kget points its').isSome = true)) ∧ ((some_).length + (((cutD ((kget rows head).getD default) (some (x_at_.1 + (1 : Int))) none).map (fun its' : Str => (((0 : Int) - (chebP ((kget points x_at_.2).getD default) ((kget points its').getD default))), x_at_.2, its')))).length ≤ sizeLine)) <|
  lt (some_ ++ ((cutD ((kget rows head).getD default) (some (x_at_.1 + (1 : Int))) none).map (fun its' : Str => (((0 : Int) - (chebP ((kget points x_at_.2).getD default) ((kget points its').getD default))), x_at_.2, its')))) fun some_ =>
  some (.nx some_)) (enumL ((kget rows head).getD default)) some_) (fun (some_ : (List (Int × Str × Str))) => 
  lt (head, head, (0 : Int)) fun due =>
  gd ((OkD ((eL (e3 eI eS eS)) some_)) ∧ (OkD ((eL (e3 eI eS eS)) ([] : (List (Int × Str × Str))))) ∧ ((!deq ((eL (e3 eI eS eS)) some_) ((eL (e3 eI eS eS)) ([] : (List (Int × Str × Str))))) = true → (∀ x ∈ some_, OkD ((e3 eI eS eS) x)) ∧ ((L2.atI (sortedT3 some_) (0 : Int)).isSome = true))) <|
  bindO (cond ((!deq ((eL (e3 eI eS eS)) some_) ((eL (e3 eI eS eS)) ([] : (List (Int × Str × Str))))) && (decide ((((L2.atI (sortedT3 some_) (0 : Int)).getD default)).1 < (0 : Int)))) (gd ((∀ x ∈ some_, OkD ((e3 eI eS eS) x)) ∧ ((L2.atI (sortedT3 some_) (0 : Int)).isSome = true) ∧ (∀ x ∈ some_, OkD ((e3 eI eS eS) x)) ∧ ((L2.atI (sortedT3 some_) (0 : Int)).isSome = true)) <|
  lt ((((((L2.atI (sortedT3 some_) (0 : Int)).getD default)).2.1, (((L2.atI (sortedT3 some_) (0 : Int)).getD default)).2.2)).1, (((((L2.atI (sortedT3 some_) (0 : Int)).getD default)).2.1, (((L2.atI (sortedT3 some_) (0 : Int)).getD default)).2.2)).2, ((0 : Int) - (((L2.atI (sortedT3 some_) (0 : Int)).getD default)).1)) fun due =>
  some (.nx due)) (some (.nx due))) (fun (due : (Str × Str × Int)) => 
  gd ((IsRt (F_widest one (eS head) (eI size))) ∧ (OkD ((e3 eS eS eI) (valO (F_widest one (eS head) (eI size))))) ∧ (OkD ((e3 eS eS eI) due))) <|
  cond (!deq ((e3 eS eS eI) (valO (F_widest one (eS head) (eI size)))) ((e3 eS eS eI) due)) (nn (some (.rt false))) (
  some (.nx ()))))) (keysOf rows) ()) (fun (_ : Unit) => 
  some (.nx rows))) [(13 : Int), ((more / (64 : Int)) % (14 : Int)), ((more / (1024 : Int)) % (8 : Int))] rows) (fun (rows : (List (Str × (List Str)))) => 
  gd ((told.length < sizeLine)) <|
  lt (told ++ [(eU ())]) fun told =>
  gd ((IsRt (F_trees one)) ∧ (OkD (eL eA (valO (F_trees one))))) <|
  cond (((valO (F_trees one))).any isNon) (nn (some (.rt false))) (
  some (.nx ()))))))) (irange 0 (max (1 : Int) (min (2 : Int) (script.length : Int)))) ()) (fun (_ : Unit) => 
  some (.rt true))
noncomputable abbrev U_law : List Int → Pg Unit Bool := fun a => F_law a
abbrev en_law : List Int → List Vl := fun a => [.lo (oS a)]
abbrev er_law : Bool → Vl := fun r => .im (eB r)
theorem fl_law (a : List Int) : ∀ r ∈ en_law a, Flat r := by
  intro r h
  simp only [List.mem_cons, List.not_mem_nil, or_false] at h
  rcases h with rfl <;> trivial
end NM
namespace NM
open PySem PySem.Spec PyProof.Rows L2
open PySem.W (DatumOrd)
variable [Tbs]
abbrev Pts := List (Str × (Int × Int))
abbrev names (pts : Pts) : List Str := sortO (keysOf pts)
def ptOf (pts : Pts) (n : Str) : Int × Int := (kget pts n).getD default
def nrG (pts : Pts) (k : Int) : Str → Str → Bool := fun a b => decide (chebP (ptOf pts a) (ptOf pts b) ≤ reachI k)
theorem cheb_sym (a b c d : Int) : cheb a b c d = cheb c d a b := by
  unfold cheb iabs
  split <;> split <;> split <;> split <;> omega
theorem chebP_sym (p q : Int × Int) : chebP p q = chebP q p := cheb_sym _ _ _ _
theorem nrG_sym (pts : Pts) (k : Int) (a b : Str) : nrG pts k a b = nrG pts k b a := by
  unfold nrG
  rw [chebP_sym]
/-- a dict of points that gathering may be asked of -/
structure Pk (pts : Pts) : Prop where
  nd : (keysOf pts).Nodup
  few : pts.length < 64
  sk : ∀ n ∈ keysOf pts, PyData.strOk n = true
theorem kget_some {α : Type} {kvs : List (Str × α)} {n : Str} (h : n ∈ keysOf kvs) : (kget kvs n).isSome = true := by
  induction kvs with
  | nil => cases h
  | cons p r ih =>
    rw [kget_cons]
    by_cases e : p.1 = n
    · rw [if_pos e]; rfl
    · rw [if_neg e]
      rcases List.mem_cons.mp h with rfl | h
      · exact absurd rfl e
      · exact ih h
theorem kget_none {α : Type} {kvs : List (Str × α)} {n : Str} (h : n ∉ keysOf kvs) : kget kvs n = none := by
  induction kvs with
  | nil => rfl
  | cons p r ih =>
    rw [kget_cons, if_neg fun e => h (by rw [← e]; exact List.mem_cons_self)]
    exact ih fun z => h (List.mem_cons_of_mem _ z)
theorem mem_of_kget {α : Type} {kvs : List (Str × α)} {n : Str} (h : (kget kvs n).isSome = true) : n ∈ keysOf kvs := by
  by_cases q : n ∈ keysOf kvs
  · exact q
  · rw [kget_none q] at h
    cases h
theorem kget_isSome {α : Type} {kvs : List (Str × α)} {n : Str} : (kget kvs n).isSome = decide (n ∈ keysOf kvs) := by
  by_cases q : n ∈ keysOf kvs
  · rw [kget_some q, decide_eq_true q]
  · rw [kget_none q, decide_eq_false q]; rfl
theorem okd_strs {n : Nat} {xs : List Str} (h : ∀ x ∈ xs, PyData.strOk x = true) : Okd (n + 1) (eL eS xs) := okL fun x hx => by cases n <;> exact h x hx
theorem okD_strs {xs : List Str} (h : ∀ x ∈ xs, PyData.strOk x = true) : OkD (eL eS xs) := ⟨1, by decide, okd_strs h⟩
theorem okD_row {xs : List Str} (h : ∀ x ∈ xs, PyData.strOk x = true) : OkD (eR eS xs) := ⟨1, by decide, okR fun x hx => h x hx⟩
theorem sorted_rows {nr : Str → Str → Bool} {S : List Str} (up : Up S) : sortedR (heapsS nr S) = heapsS nr S := by
  unfold sortedR
  have hu := heads_up (nr := nr) up
  have hp : ((heapsS nr S).map PySem.W.Tup.mk).Pairwise fun a b => DatumOrd.lt a b = true := by
    unfold heapsS
    rw [List.map_map, List.pairwise_map]
    refine List.Pairwise.imp_of_mem (fun {a b} ha hb l => ?_) hu
    obtain ⟨ha1, ha2⟩ := List.mem_filter.mp ha
    obtain ⟨hb1, hb2⟩ := List.mem_filter.mp hb
    obtain ⟨r, er⟩ := comp_cons up ha2 ha1
    obtain ⟨q, eq⟩ := comp_cons up hb2 hb1
    show PySem.W.listLt (comp nr S a) (comp nr S b) = true
    rw [er, eq]
    unfold PySem.W.listLt
    have ne : a ≠ b := fun z => by
      rw [z, TotO.irr] at l
      cases l
    first
    | (rw [if_neg ne]; exact l)
    | (simp [ne, l])
  rw [sortO_id (lt_pw hp), List.map_map]
  exact List.map_id _
end NM
namespace NM
open PySem PySem.Spec PyProof.Rows L2
open PySem.W (DatumOrd)
variable [Tbs]
/-! ### names -/
theorem small_list : small.cps.toList = List.range' 97 26 := by decide +kernel
theorem isNameS_iff {s : Str} : isNameS s = true ↔ 1 ≤ s.length ∧ s.length ≤ 6 ∧ ∀ c ∈ s.cps.toList, 97 ≤ c ∧ c < 123 := by
  unfold isNameS
  simp only [Bool.and_eq_true, decide_eq_true_eq, List.all_eq_true, List.mem_map, small_list, List.mem_range'_1, id]
  constructor
  · rintro ⟨⟨h1, h2⟩, h3⟩
    refine ⟨by omega, by omega, fun c hc => ?_⟩
    have := h3 _ ⟨c, hc, rfl⟩
    have := of_decide_eq_true this
    omega
  · rintro ⟨h1, h2, h3⟩
    refine ⟨⟨by omega, by omega⟩, ?_⟩
    rintro x ⟨c, hc, rfl⟩
    have := h3 c hc
    exact decide_eq_true (by omega)
theorem strOk_of {s : Str} (h : isNameS s = true) : PyData.strOk s = true := by
  obtain ⟨_, _, h3⟩ := isNameS_iff.mp h
  unfold PyData.strOk
  rw [Array.all_eq_true_iff_forall_mem]
  intro c hc
  have := h3 c (Array.mem_toList_iff.mpr hc)
  exact decide_eq_true (by omega)
theorem short_of {s : Str} (h : isNameS s = true) : Short (.str s) := fun t e => by
  cases e
  obtain ⟨_, h2, _⟩ := isNameS_iff.mp h
  exact small_le (by omega)
theorem isName_str {s : Str} : isName (.str s) = isNameS s := rfl
/-! ### the law's names -/
def letter (i : Int) : Nat := 97 + i.toNat
def nameOf (j : Int) : Str := ⟨#[letter (j / 26), letter (j % 26)]⟩
theorem strAt_small {i : Int} (h0 : 0 ≤ i) (h : i < 26) : (L2.atI small.cps.toList i).isSome = true ∧ strAt small i = sign (letter i) := by
  obtain ⟨k, rfl⟩ := Int.eq_ofNat_of_zero_le h0
  have hk : k < 26 := by omega
  have hs : small.cps.toList[k]? = some (97 + k) := by
    rw [small_list, List.getElem?_range' hk, Nat.one_mul]
  have e : L2.atI small.cps.toList (k : Int) = some (97 + k) := atI_nat hs
  unfold strAt
  rw [e]
  exact ⟨rfl, rfl⟩
theorem sign_app (a b : Nat) : sign a ++ sign b = (⟨#[a, b]⟩ : Str) := rfl
theorem law_name {j : Int} (h0 : 0 ≤ j) (h : j < 676) : F__law_name j = some (.rt (nameOf j)) := by
  obtain ⟨a1, a2⟩ := strAt_small (i := j / 26) (by omega) (by omega)
  obtain ⟨b1, b2⟩ := strAt_small (i := j % 26) (by omega) (by omega)
  have sm : ("abcdefghijklmnopqrstuvwxyz" : Str) = small := rfl
  unfold F__law_name
  rw [sm, a2, b2, gd_pos ⟨Nat.le_of_ble_eq_true rfl, a1, Nat.le_of_ble_eq_true rfl, b1, Nat.le_of_ble_eq_true rfl⟩, sign_app]
  rfl
theorem nameOf_ok {j : Int} (h0 : 0 ≤ j) (h : j < 676) : isNameS (nameOf j) = true := by
  refine isNameS_iff.mpr ⟨by show 1 ≤ 2; decide, by show 2 ≤ 6; decide, fun c hc => ?_⟩
  have hc : c ∈ [letter (j / 26), letter (j % 26)] := hc
  unfold letter at hc
  simp only [List.mem_cons, List.not_mem_nil, or_false] at hc
  rcases hc with rfl | rfl <;> omega
/-! ### points by names -/
/-- right points, by names -/
structure Pn (pts : Pts) : Prop where
  nd : (keysOf pts).Nodup
  nm : ∀ n ∈ keysOf pts, isNameS n = true
  pt : ∀ p ∈ pts, (0 ≤ p.2.1 ∧ p.2.1 ≤ 4095) ∧ (0 ≤ p.2.2 ∧ p.2.2 ≤ 4095)
theorem Pn.nil : Pn [] := ⟨List.nodup_nil, (fun _ h => nomatch h), (fun _ h => nomatch h)⟩
theorem Pn.pk {pts : Pts} (h : Pn pts) (l : pts.length < 64) : Pk pts := ⟨h.nd, l, fun n hn => strOk_of (h.nm n hn)⟩
theorem keys_put {α : Type} (kvs : List (Str × α)) (s : Str) (a : α) : keysOf (kput kvs s a) = if s ∈ keysOf kvs then keysOf kvs else keysOf kvs ++ [s] := by
  unfold kput
  by_cases h : s ∈ keysOf kvs
  · rw [if_pos (by
      rw [List.any_eq_true]
      obtain ⟨p, hp, e⟩ := List.mem_map.mp h
      exact ⟨p, hp, decide_eq_true e⟩), if_pos h]
    show List.map _ (List.map _ kvs) = List.map _ kvs
    rw [List.map_map]
    refine List.map_congr_left fun p _ => ?_
    show (if p.1 = s then (p.1, a) else p).1 = p.1
    split <;> rfl
  · rw [if_neg (by
      rw [List.any_eq_true]
      rintro ⟨p, hp, e⟩
      exact h (List.mem_map.mpr ⟨p, hp, of_decide_eq_true e⟩)), if_neg h]
    show List.map _ (kvs ++ [(s, a)]) = _
    rw [List.map_append]
    rfl
theorem put_len {α : Type} (kvs : List (Str × α)) (s : Str) (a : α) : (kput kvs s a).length ≤ kvs.length + 1 := by
  unfold kput
  split
  · rw [List.length_map]; omega
  · simp
theorem mem_put {α : Type} {kvs : List (Str × α)} {s : Str} {a : α} {p : Str × α} (h : p ∈ kput kvs s a) : p ∈ kvs ∨ p = (s, a) := by
  unfold kput at h
  split at h
  · obtain ⟨q, hq, e⟩ := List.mem_map.mp h
    by_cases z : q.1 = s
    · rw [if_pos z] at e
      rw [← e, z]
      exact .inr rfl
    · rw [if_neg z] at e
      rw [← e]
      exact .inl hq
  · rcases List.mem_append.mp h with h | h
    · exact .inl h
    · rw [List.mem_singleton] at h
      exact .inr h
theorem Pn.put {pts : Pts} (h : Pn pts) {n : Str} {p : Int × Int} (hn : isNameS n = true) (hp : (0 ≤ p.1 ∧ p.1 ≤ 4095) ∧ (0 ≤ p.2 ∧ p.2 ≤ 4095)) : Pn (kput pts n p) := by
  refine ⟨?_, fun m hm => ?_, fun q hq => ?_⟩
  · rw [keys_put]
    split
    · exact h.nd
    · rename_i q
      rw [List.nodup_append]
      refine ⟨h.nd, by simp, fun a ha b hb => ?_⟩
      rw [List.mem_singleton] at hb
      subst hb
      intro z
      subst z
      exact q ha
  · rw [keys_put] at hm
    split at hm
    · exact h.nm m hm
    · rcases List.mem_append.mp hm with hm | hm
      · exact h.nm m hm
      · rw [List.mem_singleton] at hm
        rw [hm]
        exact hn
  · rcases mem_put hq with hq | rfl
    · exact h.pt q hq
    · exact hp
end NM
namespace NM
open PySem PySem.Spec PyProof.Rows L2
open PySem.W (DatumOrd)
variable [Tbs]
theorem sLt_eq (a b : Str) : sLt a b = DatumOrd.lt a b := by
  rfl
theorem kmerge_nodup {α : Type} {ps : List (Str × α)} (h : (keysOf ps).Nodup) : kmerge ps = ps := by
  have key : ∀ (qs acc : List (Str × α)), (keysOf (acc ++ qs)).Nodup → qs.foldl (fun acc p => kput acc p.1 p.2) acc = acc ++ qs := by
    intro qs
    induction qs with
    | nil => intro acc _; simp
    | cons q r ih =>
      intro acc hn
      rw [List.foldl_cons]
      have e : kput acc q.1 q.2 = acc ++ [q] := by
        unfold kput
        rw [if_neg]
        intro z
        rw [List.any_eq_true] at z
        obtain ⟨p, hp, e⟩ := z
        have e := of_decide_eq_true e
        have hn : ((acc ++ q :: r).map (·.1)).Nodup := hn
        rw [List.map_append, List.nodup_append] at hn
        exact hn.2.2 p.1 (List.mem_map.mpr ⟨p, hp, rfl⟩) q.1 (by simp) e
      rw [e, ih (acc ++ [q]) (by rw [List.append_assoc]; exact hn), List.append_assoc]
      rfl
  exact key ps [] h
theorem kget_put {α : Type} (kvs : List (Str × α)) (s x : Str) (a : α) : kget (kput kvs s a) x = if x = s then some a else kget kvs x := by
  unfold kput
  by_cases h : (kvs.any fun p => decide (p.1 = s)) = true
  · rw [if_pos h]
    induction kvs with
    | nil => simp at h
    | cons p r ih =>
      rw [List.map_cons, kget_cons, kget_cons]
      by_cases e : p.1 = s
      · rw [if_pos e]
        by_cases q : x = s
        · rw [if_pos q, if_pos (by rw [q]; exact e)]
        · rw [if_neg q, if_neg (fun z => q (by rw [← z]; exact e)), if_neg (fun z => q (by rw [← z]; exact e))]
          -- what comes behind
          clear ih h
          induction r with
          | nil => rfl
          | cons p2 r2 ih2 =>
            rw [List.map_cons, kget_cons, kget_cons, ih2]
            by_cases e2 : p2.1 = s
            · rw [if_pos e2]
              rw [if_neg (fun z => q (by rw [← z]; exact e2)), if_neg (fun z => q (by rw [← z]; exact e2))]
            · rw [if_neg e2]
      · rw [if_neg e]
        have h' : (r.any fun p => decide (p.1 = s)) = true := by simpa [e] using h
        rw [ih h']
        by_cases q : x = s
        · rw [if_pos q, if_neg (fun z => e (by rw [z]; exact q)), if_pos q]
        · rw [if_neg q, if_neg q]
  · rw [if_neg h]
    induction kvs with
    | nil =>
      show kget [(s, a)] x = _
      rw [kget_cons]
      by_cases q : x = s
      · rw [if_pos q, if_pos q.symm]
      · rw [if_neg q, if_neg (Ne.symm q)]
    | cons p r ih =>
      have h1 : ¬ p.1 = s := fun z => h (by simp [z])
      have h2 : ¬ (r.any fun p => decide (p.1 = s)) = true := fun z => h (by simp only [List.any_cons, z, Bool.or_true])
      rw [List.cons_append, kget_cons, kget_cons, ih h2]
      by_cases q : x = s
      · rw [if_pos q, if_neg (fun z => h1 (by rw [z]; exact q)), if_pos q]
      · rw [if_neg q, if_neg q]
theorem group_len (cal : Str → Str) (xs : List Str) : (group cal xs).length ≤ xs.length ∧ ∀ x r, kget (group cal xs) x = some r → r.length ≤ xs.length := by
  have key : ∀ (xs : List Str) (acc : List (Str × List Str)) (m : Nat), acc.length ≤ m → (∀ x r, kget acc x = some r → r.length ≤ m) →
      (xs.foldl (fun acc n => kput acc (cal n) ((kget acc (cal n)).getD [] ++ [n])) acc).length ≤ m + xs.length ∧ ∀ x r, kget (xs.foldl (fun acc n => kput acc (cal n) ((kget acc (cal n)).getD [] ++ [n])) acc) x = some r → r.length ≤ m + xs.length := by
    intro xs
    induction xs with
    | nil => intro acc m h1 h2; exact ⟨h1, h2⟩
    | cons n xs ih =>
      intro acc m h1 h2
      have b1 : ((kget acc (cal n)).getD []).length ≤ m := by
        cases q : kget acc (cal n) with
        | none => exact Nat.zero_le _
        | some r => exact h2 _ _ q
      obtain ⟨i1, i2⟩ := ih (kput acc (cal n) ((kget acc (cal n)).getD [] ++ [n])) (m + 1) (Nat.le_trans (put_len _ _ _) (by omega)) fun x r e => by
        rw [kget_put] at e
        split at e
        · cases e
          rw [List.length_append, List.length_singleton]
          omega
        · have := h2 x r e
          omega
      rw [List.length_cons, List.foldl_cons]
      refine ⟨by omega, fun x r e => ?_⟩
      have := i2 x r e
      omega
  obtain ⟨a, b⟩ := key xs [] 0 (Nat.le_refl _) fun x r e => by cases e
  rw [Nat.zero_add] at a
  exact ⟨a, fun x r e => by
    have := b x r e
    rwa [Nat.zero_add] at this⟩
end NM
namespace NM
open PySem PySem.Spec PyProof.Rows L2
open PySem.W (DatumOrd)
variable [Tbs]
abbrev calD (ks : List Str) (cal : Str → Str) : List (Str × Str) := ks.map fun n => (n, cal n)
theorem calD_get {ks : List Str} {cal : Str → Str} {n : Str} (h : n ∈ ks) : kget (calD ks cal) n = some (cal n) := by rw [kget_map, if_pos h]
theorem calD_put {ks : List Str} {cal : Str → Str} {a v : Str} (h : a ∈ ks) : kput (calD ks cal) a v = calD ks (put1 cal a v) := by
  rw [kput_map, if_pos h]
  rfl
/-- what holds within a pass: a, b all pairs seen so far -/
structure PassI (ks : List Str) (nr : Str → Str → Bool) (S : List Str) (cal0 : Str → Str) (seen : Str → Str → Prop) (called : List (Str × Str)) (more : Bool) (cal : Str → Str) : Prop where
  eq : called = calD ks cal
  lab : Lab nr S cal
  lt : more = true → mu S cal < mu S cal0
  same : more = false → cal = cal0 ∧ ∀ a b, seen a b → nr a b = true → DatumOrd.lt (cal b) (cal a) = false
theorem law_heaps {pts : Pts} {k : Int} (h : Pk pts) (hk : 0 ≤ k ∧ k < 14) : F__law_heaps pts k = some (.rt ((heads (nrG pts k) (names pts)).map fun h => (h, comp (nrG pts k) (names pts) h))) := by
  have up : Up (names pts) := sortO_lt h.nd
  have sy := nrG_sym pts k
  have few := h.few
  have memS : ∀ n, n ∈ names pts ↔ n ∈ keysOf pts := fun n => mem_sortO
  have lenS : (names pts).length = pts.length := by rw [(sortO_perm _).length_eq, List.length_map]
  unfold F__law_heaps
  rw [gd_pos (small_le (by omega)), lt_def, lt_def]
  have e0 : kmerge ((keysOf pts).map fun n : Str => (n, n)) = calD (keysOf pts) id := by
    have e1 : keysOf ((keysOf pts).map fun n : Str => (n, n)) = keysOf pts := by
      show List.map _ (List.map _ _) = _
      rw [List.map_map]
      exact List.map_id _
    rw [kmerge_nodup (by rw [e1]; exact h.nd)]
    rfl
  rw [e0]
  have muC : ∀ cal, mu (names pts) (fun n => (kget (calD (keysOf pts) cal) n).getD n) = mu (names pts) cal := fun cal => by
    unfold mu
    congr 1
    refine List.map_congr_left fun n hn => ?_
    show (List.filter (fun s => DatumOrd.lt s ((kget (calD (keysOf pts) cal) n).getD n)) (names pts)).length = _
    rw [calD_get ((memS n).mp hn)]
    rfl
  refine while_then (fun s => ∃ cal, s.1 = calD (keysOf pts) cal ∧ Lab (nrG pts k) (names pts) cal ∧ (s.2 = false → Fixed (nrG pts k) (names pts) cal)) (fun s => 2 * mu (names pts) (fun n => (kget s.1 n).getD n) + if s.2 then 1 else 0) ⟨id, rfl, Lab.start _, (fun z => nomatch z)⟩ ?_ ?_
  · rintro ⟨called, more⟩ ⟨cal0, ec, lab, fx⟩
    dsimp only at ec fx ⊢
    subst ec
    refine ⟨trivial, fun hm => ?_⟩
    subst hm
    rw [lt_def]
    refine for_ex (fun pre s => ∃ cal, PassI (keysOf pts) (nrG pts k) (names pts) cal0 (fun a b => a ∈ pre ∧ b ∈ keysOf pts) s.1 s.2 cal) ⟨cal0, rfl, lab, (fun z => nomatch z), fun _ => ⟨rfl, fun a b hh => nomatch hh.1⟩⟩ ?_ ?_
    · rintro pre a post ⟨called, more⟩ ex ⟨cal, J⟩
      have ha : a ∈ keysOf pts := by rw [ex]; simp
      dsimp only at J ⊢
      refine for_ex (fun pre2 s => ∃ cal, PassI (keysOf pts) (nrG pts k) (names pts) cal0 (fun x b => (x ∈ pre ∧ b ∈ keysOf pts) ∨ (x = a ∧ b ∈ pre2)) s.1 s.2 cal) ⟨cal, J.eq, J.lab, J.lt, fun z => ⟨(J.same z).1, fun x b hh => (J.same z).2 x b (hh.elim id fun w => nomatch w.2)⟩⟩ ?_ ?_
      · clear J
        rintro pre2 b post2 ⟨called, more⟩ ex2 ⟨cal, J⟩
        have hb : b ∈ keysOf pts := by rw [ex2]; simp
        dsimp only at J ⊢
        obtain ⟨rfl, lab, jl, js⟩ := J
        rw [calD_get ha, calD_get hb]
        rw [gd_pos ⟨rfl, rfl, fun _ => ⟨kget_some ha, kget_some hb, hk⟩⟩]
        have en : nearP ((kget pts a).getD default) ((kget pts b).getD default) k = nrG pts k a b := rfl
        have es : sLt ((some (cal b)).getD default) ((some (cal a)).getD default) = DatumOrd.lt (cal b) (cal a) := rfl
        rw [en, es]
        cases q1 : DatumOrd.lt (cal b) (cal a) with
        | true =>
          cases q2 : nrG pts k a b with
          | true =>
            have m1 := mu_lt (S := names pts) (cal := cal) (a := a) (v := cal b) ((memS a).mpr ha) (lab.cn b ((memS b).mpr hb)).r q1
            refine ⟨_, by
              show bindO (gd _ _) _ = _
              rw [gd_pos ⟨rfl, small_lt (by rw [List.length_map, List.length_map]; omega)⟩, lt_def, lt_def]
              exact bind_nx _ _, put1 cal a (cal b), calD_put ha, Lab.step lab ((memS a).mpr ha) ((memS b).mpr hb) q2 q1, fun _ => ?_, (fun z => by cases z)⟩
            cases more with
            | true => have := jl rfl; omega
            | false => rw [(js rfl).1] at m1 ⊢; exact m1
          | false =>
            refine ⟨_, rfl, cal, rfl, lab, jl, fun z => ⟨(js z).1, fun x y hh n => ?_⟩⟩
            rcases hh with hh | ⟨rfl, hy⟩
            · exact (js z).2 x y (.inl hh) n
            · rcases List.mem_append.mp hy with hy | hy
              · exact (js z).2 x y (.inr ⟨rfl, hy⟩) n
              · rw [List.mem_singleton] at hy
                subst hy
                rw [q2] at n
                cases n
        | false =>
          refine ⟨_, rfl, cal, rfl, lab, jl, fun z => ⟨(js z).1, fun x y hh n => ?_⟩⟩
          rcases hh with hh | ⟨rfl, hy⟩
          · exact (js z).2 x y (.inl hh) n
          · rcases List.mem_append.mp hy with hy | hy
            · exact (js z).2 x y (.inr ⟨rfl, hy⟩) n
            · rw [List.mem_singleton] at hy
              subst hy
              exact q1
      · clear J
        rintro ⟨called, more⟩ ⟨cal, J⟩
        refine ⟨_, rfl, cal, J.eq, J.lab, J.lt, fun z => ⟨(J.same z).1, fun x y ⟨hx, hy⟩ => ?_⟩⟩
        rcases List.mem_append.mp hx with hx | hx
        · exact (J.same z).2 x y (.inl ⟨hx, hy⟩)
        · rw [List.mem_singleton] at hx
          exact (J.same z).2 x y (.inr ⟨hx, hy⟩)
    · rintro ⟨called, more⟩ ⟨cal, J⟩
      obtain ⟨ec, lab', jl, js⟩ := J
      dsimp only at ec jl js ⊢
      subst ec
      refine ⟨_, rfl, ⟨cal, rfl, lab', fun z a ha b hb n => (js z).2 a b ⟨(memS a).mp ha, (memS b).mp hb⟩ n⟩, ?_⟩
      dsimp only
      rw [muC, muC]
      cases more with
      | true => have := jl rfl; simp; omega
      | false => rw [(js rfl).1]; simp
  · rintro ⟨called, more⟩ ⟨cal, ec, lab, fx⟩ hc
    dsimp only at ec fx hc ⊢
    subst ec
    have hkc : keysOf (calD (keysOf pts) cal) = keysOf pts := by
      show List.map _ (List.map _ _) = _
      rw [List.map_map]
      exact List.map_id _
    rw [lt_def, gd_pos (by rw [List.length_map, List.length_map]; exact few)]
    show bindO (forO _ (sortO (keysOf (calD (keysOf pts) cal))) _) _ = _
    rw [hkc]
    refine for_then (fun pre found => found = group cal pre) rfl ?_ ?_
    · rintro pre n post found ex rfl
      have hn : n ∈ keysOf pts := (memS n).mp (by show n ∈ sortO _; rw [ex]; simp)
      have hl := congrArg List.length ex
      rw [show (sortO (keysOf pts)).length = pts.length from lenS, List.length_append, List.length_cons] at hl
      obtain ⟨g1, g2⟩ := group_len cal pre
      rw [calD_get hn]
      have g3 : ((kget (group cal pre) (cal n)).getD []).length ≤ pre.length := by
        cases q : kget (group cal pre) (cal n) with
        | none => exact Nat.zero_le _
        | some r => exact g2 _ _ q
      rw [gd_pos ⟨rfl, small_le (by
        show ((kget (group cal pre) (cal n)).getD []).length + 1 ≤ _
        omega), rfl, small_lt (by omega)⟩, lt_def]
      exact ⟨_, rfl, (group_snoc cal pre n).symm⟩
    · rintro found rfl
      rw [show group cal (sortO (keysOf pts)) = _ from group_heaps up sy lab (fx hc)]
end NM
namespace NM
open PySem PySem.Spec PyProof.Rows L2
open PySem.W (DatumOrd)
variable [Tbs]
theorem keysOf_emap {α β : Type} (f : α → β) (kvs : List (Str × α)) : keysOf (emap f kvs) = keysOf kvs := emap_keys f kvs
/-- a loop that refuses what is none -/
theorem for_check {α ρ : Type} {step : α → Unit → Pg Unit ρ} {b : α → Bool} {e : Str} {xs : List α} (h : ∀ x ∈ xs, step x () = cond (b x) (some (.nx ())) (some (.ex e))) : forO step xs () = if xs.all b then some (.nx ()) else some (.ex e) := by
  induction xs with
  | nil => rfl
  | cons x r ih =>
    unfold forO
    rw [h x List.mem_cons_self]
    cases q : b x with
    | true =>
      show forO step r () = _
      rw [ih fun y hy => h y (List.mem_cons_of_mem _ hy)]
      simp [q]
    | false => simp [q]
theorem kget_emapD {α : Type} (f : α → NM.D) (kvs : List (Str × α)) (n : Str) (h : n ∈ keysOf kvs) [Inhabited α] : (kget (emap f kvs) n).getD default = f ((kget kvs n).getD default) := by
  rw [kget_emap]
  obtain ⟨a, e⟩ := Option.isSome_iff_exists.mp (kget_some h)
  rw [e]
  rfl
theorem pt_mem {pts : Pts} (h : Pn pts) {n : Str} (hn : n ∈ keysOf pts) : (0 ≤ (ptOf pts n).1 ∧ (ptOf pts n).1 ≤ 4095) ∧ (0 ≤ (ptOf pts n).2 ∧ (ptOf pts n).2 ≤ 4095) := by
  have key : ∀ pts : Pts, (∀ p ∈ pts, (0 ≤ p.2.1 ∧ p.2.1 ≤ 4095) ∧ (0 ≤ p.2.2 ∧ p.2.2 ≤ 4095)) → n ∈ keysOf pts → (0 ≤ (ptOf pts n).1 ∧ (ptOf pts n).1 ≤ 4095) ∧ (0 ≤ (ptOf pts n).2 ∧ (ptOf pts n).2 ≤ 4095) := by
    intro pts
    induction pts with
    | nil => intro _ h; cases h
    | cons p r ih =>
      intro hp hm
      unfold ptOf
      rw [kget_cons]
      by_cases e : p.1 = n
      · rw [if_pos e]
        exact hp p List.mem_cons_self
      · rw [if_neg e]
        rcases List.mem_cons.mp hm with z | hm
        · exact absurd z.symm e
        · exact ih (fun q hq => hp q (List.mem_cons_of_mem _ hq)) hm
  exact key pts h.pt hn
theorem eP_isPoint {p : Int × Int} (h : (0 ≤ p.1 ∧ p.1 ≤ 4095) ∧ (0 ≤ p.2 ∧ p.2 ≤ 4095)) : isPoint (eP eI eI p) = true := isPoint_of h.1 h.2
theorem isSize_iff {i : Int} : isSize (.int i) = true ↔ 0 ≤ i ∧ i ≤ 13 := by
  unfold isSize isCount
  simp
theorem eII_inj (p q : Int × Int) (h : eP eI eI p = eP eI eI q) : p = q := eP_inj eI_inj eI_inj p q h
theorem unD_emap {α : Type} [Inhabited α] {f : α → NM.D} (hf : ∀ a b, f a = f b → a = b) (kvs : List (Str × α)) : unD f (emap f kvs) = kvs := by
  unfold unD
  show List.map _ (List.map _ kvs) = kvs
  rw [List.map_map]
  conv => rhs; rw [← List.map_id kvs]
  refine List.map_congr_left fun p _ => ?_
  show (p.1, unE f (f p.2)) = p
  rw [unE_enc hf]
end NM
/-! Heaps by the least name of each mark: a mark comes, a mark goes. -/
namespace NM
open PySem PySem.Spec PyProof.Rows L2
open PySem.W (DatumOrd)
section
variable {ν : Type} [DecidableEq ν] [DatumOrd ν] [TotO ν]
variable {nr : ν → ν → Bool} {S T : List ν} {h : ν → ν}
/-- h tells the least of each one's heap -/
def Hd (nr : ν → ν → Bool) (S : List ν) (h : ν → ν) : Prop := ∀ a, a ∈ S → Cn nr S a (h a) ∧ ∀ n, Cn nr S a n → DatumOrd.lt n (h a) = false
theorem Cn.sub (s : ∀ x, x ∈ S → x ∈ T) {a b : ν} (c : Cn nr S a b) : Cn nr T a b := by
  induction c with
  | refl a ha => exact .refl a (s a ha)
  | step _ hc n ih => exact .step ih (s _ hc) n
theorem Cn.congr {nr' : ν → ν → Bool} (s : ∀ x, x ∈ S → x ∈ T) (e : ∀ a b, a ∈ S → b ∈ S → nr a b = nr' a b) {a b : ν} (c : Cn nr S a b) : Cn nr' T a b := by
  induction c with
  | refl a ha => exact .refl a (s a ha)
  | step hb hc n ih => exact .step ih (s _ hc) (by rw [← e _ _ hb.r hc]; exact n)
theorem least_eq {a b : ν} (h1 : DatumOrd.lt a b = false) (h2 : DatumOrd.lt b a = false) : a = b := by
  rcases TotO.tot a b with e | e | e
  · exact e
  · rw [h1] at e; cases e
  · rw [h2] at e; cases e
theorem Hd.mem (H : Hd nr S h) {a : ν} (ha : a ∈ S) : h a ∈ S := (H a ha).1.r
theorem Hd.of_cn (sy : ∀ a b, nr a b = nr b a) (H : Hd nr S h) {a b : ν} (c : Cn nr S a b) : h a = h b :=
  least_eq ((H b c.r).2 _ ((c.symm sy).trans (H a c.l).1)) ((H a c.l).2 _ (c.trans (H b c.r).1))
theorem Hd.cn (sy : ∀ a b, nr a b = nr b a) (H : Hd nr S h) {a b : ν} (ha : a ∈ S) (hb : b ∈ S) : Cn nr S a b ↔ h a = h b :=
  ⟨fun c => H.of_cn sy c, fun e => (H a ha).1.trans (by rw [e]; exact (H b hb).1.symm sy)⟩
theorem Hd.idem (sy : ∀ a b, nr a b = nr b a) (H : Hd nr S h) {a : ν} (ha : a ∈ S) : h (h a) = h a := (H.of_cn sy (H a ha).1).symm
theorem Hd.head (sy : ∀ a b, nr a b = nr b a) (H : Hd nr S h) {a : ν} (ha : a ∈ S) : isHead nr S a = true ↔ h a = a := by
  rw [head_iff]
  constructor
  · exact fun z => least_eq ((H a ha).2 a (.refl a ha) |> fun q => z _ (H a ha).1) ((H a ha).2 a (.refl a ha))
  · intro e n c
    have := (H a ha).2 n c
    rw [e] at this
    exact this
theorem Hd.congr {nr' : ν → ν → Bool} {h' : ν → ν} (s : ∀ x, x ∈ S ↔ x ∈ T) (e : ∀ a b, a ∈ S → b ∈ S → nr a b = nr' a b) (eh : ∀ a, a ∈ S → h a = h' a) (H : Hd nr S h) : Hd nr' T h' := fun a ha => by
  have ha' := (s a).mpr ha
  obtain ⟨c, l⟩ := H a ha'
  rw [← eh a ha']
  exact ⟨c.congr (fun x hx => (s x).mp hx) e, fun n cn => l n (cn.congr (fun x hx => (s x).mpr hx) fun a b ha hb => (e a b ((s a).mpr ha) ((s b).mpr hb)).symm)⟩
theorem lt_trans_f {a b c : ν} (h1 : DatumOrd.lt a b = false) (h2 : DatumOrd.lt b c = false) : DatumOrd.lt a c = false := by
  cases q : DatumOrd.lt a c with
  | false => rfl
  | true =>
    rcases TotO.tot b c with e | e | e
    · rw [e] at h1; rw [h1] at q; cases q
    · rw [h2] at e; cases e
    · have := TotO.tr _ _ _ q e
      rw [h1] at this
      cases this
/-- a mark a comes; nb the least ones of its neighbours' heaps, l the least of all -/
theorem Hd.join (sy : ∀ a b, nr a b = nr b a) (H : Hd nr S h) {a l : ν} {nb : List ν} (ha : a ∉ S) (hnb : ∀ x, x ∈ nb ↔ ∃ b, b ∈ S ∧ nr a b = true ∧ h b = x) (hl : l = a ∨ l ∈ nb) (ll : DatumOrd.lt a l = false) (ln : ∀ x ∈ nb, DatumOrd.lt x l = false) :
    Hd nr (a :: S) fun x => if x = a ∨ h x ∈ nb then l else h x := by
  have up : ∀ {x y}, Cn nr S x y → Cn nr (a :: S) x y := fun c => c.sub fun x hx => List.mem_cons_of_mem _ hx
  have na : ∀ x, x ∈ S → x ≠ a := fun x hx e => ha (by rw [← e]; exact hx)
  have to : ∀ x, x ∈ S → h x ∈ nb → Cn nr (a :: S) x a := fun x hx hn => by
    obtain ⟨b, hb, n, e⟩ := (hnb _).mp hn
    exact .step (up ((H.cn sy hx hb).mpr e.symm)) List.mem_cons_self (by rw [sy]; exact n)
  have inv : ∀ {x y}, Cn nr (a :: S) x y → ((x = a ∨ h x ∈ nb) ↔ (y = a ∨ h y ∈ nb)) ∧ (¬ (x = a ∨ h x ∈ nb) → h x = h y) := fun {x y} c => by
    induction c with
    | refl x hx => exact ⟨Iff.rfl, fun _ => rfl⟩
    | @step x b c hb hc n ih =>
      have key : ((b = a ∨ h b ∈ nb) ↔ (c = a ∨ h c ∈ nb)) ∧ (¬ (b = a ∨ h b ∈ nb) → h b = h c) := by
        rcases List.mem_cons.mp hb.r with eb | hbS
        · subst eb
          refine ⟨⟨fun _ => ?_, fun _ => .inl rfl⟩, fun q => absurd (.inl rfl) q⟩
          rcases List.mem_cons.mp hc with ec | hcS
          · exact .inl ec
          · exact .inr ((hnb _).mpr ⟨c, hcS, n, rfl⟩)
        · rcases List.mem_cons.mp hc with ec | hcS
          · subst ec
            have : h b ∈ nb := (hnb _).mpr ⟨b, hbS, by rw [sy]; exact n, rfl⟩
            exact ⟨⟨fun _ => .inl rfl, fun _ => .inr this⟩, fun q => absurd (.inr this) q⟩
          · have e : h b = h c := H.of_cn sy (.step (.refl b hbS) hcS n)
            have n1 := na b hbS
            have n2 := na c hcS
            rw [e]
            exact ⟨by simp [n1, n2], fun _ => rfl⟩
      exact ⟨ih.1.trans key.1, fun q => (ih.2 q).trans (key.2 fun z => q (ih.1.mpr z))⟩
  have hlA : l ∈ a :: S ∧ Cn nr (a :: S) l a := by
    rcases hl with e | hl
    · rw [e]; exact ⟨List.mem_cons_self, .refl a List.mem_cons_self⟩
    · obtain ⟨b, hb, n, e⟩ := (hnb l).mp hl
      have hlS : l ∈ S := by rw [← e]; exact H.mem hb
      exact ⟨List.mem_cons_of_mem _ hlS, to l hlS (by rw [← e, H.idem sy hb, e]; exact hl)⟩
  intro x hx
  by_cases q : x = a ∨ h x ∈ nb
  · have hxa : Cn nr (a :: S) x a := by
      rcases q with e | q
      · rw [e]; exact .refl a List.mem_cons_self
      · rcases List.mem_cons.mp hx with e | hxS
        · rw [e]; exact .refl a List.mem_cons_self
        · exact to x hxS q
    dsimp only
    rw [if_pos q]
    refine ⟨hxa.trans (hlA.2.symm sy), fun n c => ?_⟩
    rcases (inv c).1.mp q with e | e
    · rw [e]; exact ll
    · rcases List.mem_cons.mp c.r with e2 | hnS
      · rw [e2]; exact ll
      · exact lt_trans_f ((H n hnS).2 n (.refl n hnS)) (ln _ e)
  · have hxS : x ∈ S := (List.mem_cons.mp hx).resolve_left fun e => q (.inl e)
    dsimp only
    rw [if_neg q]
    refine ⟨up (H x hxS).1, fun n c => ?_⟩
    have hn : ¬ (n = a ∨ h n ∈ nb) := fun z => q ((inv c).1.mpr z)
    have hnS : n ∈ S := (List.mem_cons.mp c.r).resolve_left fun e => hn (.inl e)
    rw [(inv c).2 q]
    exact (H n hnS).2 n (.refl n hnS)
/-- a mark a goes; sm those of its heap that stay, g their least ones by themselves -/
theorem Hd.drop (sy : ∀ a b, nr a b = nr b a) (H : Hd nr S h) {a : ν} {sm : List ν} {g : ν → ν} (ha : a ∈ S) (hT : ∀ x, x ∈ T ↔ x ∈ S ∧ x ≠ a) (hs : ∀ x, x ∈ sm ↔ x ∈ T ∧ h x = h a) (G : Hd nr sm g) : Hd nr T fun x => if h x = h a then g x else h x := by
  have up : ∀ {x y}, Cn nr T x y → Cn nr S x y := fun c => c.sub fun x hx => ((hT x).mp hx).1
  have up2 : ∀ {x y}, Cn nr sm x y → Cn nr T x y := fun c => c.sub fun x hx => ((hs x).mp hx).1
  have same : ∀ {x y}, Cn nr T x y → h x = h y := fun c => H.of_cn sy (up c)
  have inn : ∀ {x y}, Cn nr T x y → h x = h a → Cn nr sm x y := fun {x y} c e => by
    induction c with
    | refl x hx => exact .refl x ((hs x).mpr ⟨hx, e⟩)
    | @step x b c hb hc n ih => exact .step (ih e) ((hs c).mpr ⟨hc, by rw [← same (.step hb hc n)]; exact e⟩) n
  have out : ∀ {x y}, Cn nr S x y → h x ≠ h a → Cn nr T x y := fun {x y} c e => by
    induction c with
    | refl x hx => exact .refl x ((hT x).mpr ⟨hx, fun z => e (by rw [z])⟩)
    | @step x b c hb hc n ih => exact .step (ih e) ((hT c).mpr ⟨hc, fun z => e (by rw [← z]; exact H.of_cn sy (.step hb hc n))⟩) n
  intro x hx
  by_cases q : h x = h a
  · dsimp only
    rw [if_pos q]
    have hxs := (hs x).mpr ⟨hx, q⟩
    refine ⟨up2 (G x hxs).1, fun n c => ?_⟩
    exact (G x hxs).2 n (inn c q)
  · have hxS := ((hT x).mp hx).1
    dsimp only
    rw [if_neg q]
    refine ⟨out (H x hxS).1 q, fun n c => ?_⟩
    exact (H x hxS).2 n (up c)
/-- the heaps by such a function -/
theorem Hd.heads (sy : ∀ a b, nr a b = nr b a) (H : Hd nr S h) : NM.heads nr S = S.filter fun n => decide (h n = n) := by
  unfold NM.heads
  refine List.filter_congr fun x hx => ?_
  cases q : isHead nr S x with
  | true => rw [decide_eq_true ((H.head sy hx).mp q)]
  | false =>
    rw [decide_eq_false]
    intro z
    rw [(H.head sy hx).mpr z] at q
    cases q
theorem Hd.comp (sy : ∀ a b, nr a b = nr b a) (H : Hd nr S h) {m : ν} (hm : m ∈ S) (e : h m = m) : NM.comp nr S m = S.filter fun n => decide (h n = m) := by
  unfold NM.comp
  refine List.filter_congr fun x hx => ?_
  have k := H.cn sy hm hx
  rw [e] at k
  by_cases q : h x = m
  · rw [decide_eq_true q, @decide_eq_true _ (Classical.propDecidable _) (k.mpr q.symm)]
  · rw [decide_eq_false q, @decide_eq_false _ (Classical.propDecidable _) fun z => q (k.mp z).symm]
/-- gathering tells such a function -/
theorem Hd.ex (up : Up S) (sy : ∀ a b, nr a b = nr b a) (f : ν → ν) (hf : ∀ m n, m ∈ NM.heads nr S → n ∈ NM.comp nr S m → f n = m) : Hd nr S f := fun a ha => by
  obtain ⟨m, h1, h2, h3⟩ := has_head (nr := nr) up sy ha
  rw [hf m a (mem_heads.mpr ⟨h2, h1⟩) (mem_comp.mpr h3)]
  exact ⟨h3.symm sy, fun n c => head_iff.mp h1 n (h3.trans c)⟩
end
end NM
/-! The map's deeds. -/
namespace NM
open PySem PySem.Spec PyProof.Rows L2
open PySem.W (DatumOrd)
variable [Tbs]
/-! ### the least -/
theorem minOf_spec {α : Type} [DecidableEq α] [DatumOrd α] [TotO α] : ∀ (xs : List α) (x : α), PySem.W.minOf x xs ∈ x :: xs ∧ ∀ y ∈ x :: xs, DatumOrd.lt y (PySem.W.minOf x xs) = false
  | [], x => ⟨List.mem_cons_self, fun y hy => by rw [List.mem_singleton.mp hy]; exact TotO.irr _⟩
  | y :: r, x => by
    have e : PySem.W.minOf x (y :: r) = PySem.W.minOf (if DatumOrd.lt y x = true then y else x) r := rfl
    rw [e]
    obtain ⟨h1, h2⟩ := minOf_spec r (if DatumOrd.lt y x = true then y else x)
    by_cases q : DatumOrd.lt y x = true
    · rw [if_pos q] at h1 h2 ⊢
      refine ⟨List.mem_cons_of_mem _ h1, fun z hz => ?_⟩
      rcases List.mem_cons.mp hz with rfl | hz
      · exact lt_trans_f (TotO.asym q) (h2 y List.mem_cons_self)
      · exact h2 z hz
    · rw [if_neg q] at h1 h2 ⊢
      refine ⟨?_, fun z hz => ?_⟩
      · rcases List.mem_cons.mp h1 with h1 | h1
        · rw [h1]; exact List.mem_cons_self
        · exact List.mem_cons_of_mem _ (List.mem_cons_of_mem _ h1)
      · rcases List.mem_cons.mp hz with rfl | hz
        · exact h2 z List.mem_cons_self
        · rcases List.mem_cons.mp hz with rfl | hz
          · exact lt_trans_f (by simpa using q) (h2 x List.mem_cons_self)
          · exact h2 z (List.mem_cons_of_mem _ hz)
theorem minS_spec {zs : List Str} (h : zs ≠ []) : minS zs ∈ zs ∧ ∀ y ∈ zs, DatumOrd.lt y (minS zs) = false := by
  cases zs with
  | nil => exact absurd rfl h
  | cons x xs => exact minOf_spec xs x
/-! ### dicts -/
section
variable {α : Type}
theorem keys_drop (kvs : List (Str × α)) (s : Str) : keysOf (kdrop kvs s) = (keysOf kvs).filter fun x => decide (x ≠ s) := by
  unfold kdrop
  show List.map _ (List.filter _ kvs) = List.filter _ (List.map _ kvs)
  rw [List.filter_map]
  congr 1
theorem kget_drop (kvs : List (Str × α)) (s x : Str) : kget (kdrop kvs s) x = if x = s then none else kget kvs x := by
  unfold kdrop
  induction kvs with
  | nil => simp [kget]
  | cons p r ih =>
    rw [List.filter_cons]
    by_cases e : p.1 = s
    · rw [if_neg (by simp [e]), ih, kget_cons]
      by_cases q : x = s
      · rw [if_pos q, if_pos q]
      · rw [if_neg q, if_neg q, if_neg fun z => q (by rw [← z]; exact e)]
    · rw [if_pos (by simp [e]), kget_cons, kget_cons, ih]
      by_cases q : x = s
      · rw [if_pos q, if_pos q, if_neg fun z => e (by rw [z]; exact q)]
      · rw [if_neg q, if_neg q]
theorem mem_keys_put {kvs : List (Str × α)} {s : Str} {a : α} {x : Str} : x ∈ keysOf (kput kvs s a) ↔ x ∈ keysOf kvs ∨ x = s := by
  rw [keys_put]
  split
  · rename_i h
    exact ⟨.inl, fun z => z.elim id fun e => by rw [e]; exact h⟩
  · rw [List.mem_append, List.mem_singleton]
theorem nodup_put {kvs : List (Str × α)} {s : Str} {a : α} (h : (keysOf kvs).Nodup) : (keysOf (kput kvs s a)).Nodup := by
  rw [keys_put]
  split
  · exact h
  · rename_i q
    rw [List.nodup_append]
    refine ⟨h, by simp, fun a ha b hb => ?_⟩
    rw [List.mem_singleton] at hb
    subst hb
    intro z
    subst z
    exact q ha
theorem kget_mem {kvs : List (Str × α)} {s : Str} (h : s ∈ keysOf kvs) (d : α) : kget kvs s = some ((kget kvs s).getD d) := by
  have := kget_some h
  cases q : kget kvs s with
  | none => rw [q] at this; cases this
  | some a => rfl
end
/-! ### the map -/
def hdOf (hd : List (Str × Str)) (n : Str) : Str := (kget hd n).getD n
/-- the heads of one size -/
structure HdI (pts : Pts) (k : Int) (hd : List (Str × Str)) : Prop where
  nd : (keysOf hd).Nodup
  mem : ∀ n, n ∈ keysOf hd ↔ n ∈ keysOf pts
  hd : Hd (nrG pts k) (keysOf pts) (hdOf hd)
structure MapI (m : PMap) : Prop where
  pn : Pn m.points
  few : m.points.length ≤ 60
  len : m.heads.length = 14
  hs : ∀ k : Nat, k < 14 → HdI m.points k (m.heads.getD k default)
theorem HdI.len {pts : Pts} {k : Int} {hd : List (Str × Str)} (h : HdI pts k hd) (nd : (keysOf pts).Nodup) : hd.length = pts.length := by
  have p : (keysOf hd).Perm (keysOf pts) := (List.perm_ext_iff_of_nodup h.nd nd).mpr h.mem
  have := p.length_eq
  rwa [List.length_map, List.length_map] at this
theorem nrG_congr {p q : Pts} {k : Int} {a b : Str} (ha : kget p a = kget q a) (hb : kget p b = kget q b) : nrG p k a b = nrG q k a b := by
  unfold nrG ptOf
  rw [ha, hb]
theorem init_ok : F_Map___init__ () () = some (.nx ⟨[], (irange 0 14).map fun _ => []⟩) := by
  unfold F_Map___init__
  rw [lt_def, gd_pos (by decide +kernel), lt_def]
  rfl
theorem init_I : MapI ⟨[], (irange 0 14).map fun _ => []⟩ := by
  refine ⟨Pn.nil, Nat.zero_le _, by rw [List.length_map, irange_length]; rfl, fun k hk => ?_⟩
  have e : ((irange 0 14).map fun _ => ([] : List (Str × Str))).getD k default = [] := by
    rw [List.getD_eq_getElem?_getD, List.getElem?_map]
    cases (irange 0 14)[k]? <;> rfl
  show HdI [] k _
  rw [e]
  exact ⟨List.nodup_nil, fun n => Iff.rfl, fun a ha => nomatch ha⟩
theorem quiet_nx {σ ρ : Type} (s : σ) : quiet (some (.nx s) : Pg σ ρ) = some (.nx s) := rfl
/-- a new mark joins at one size -/
theorem join_ok {m : PMap} {a : Str} {k : Int} {old : Pts} {p : Int × Int} (hk : 0 ≤ k ∧ k < 14) (hl : m.heads.length = 14) (ha : a ∉ keysOf old) (ep : m.points = kput old a p) (pn : Pn m.points) (few : m.points.length ≤ 60) (H : HdI old k (m.heads.getD k.toNat default)) :
    ∃ m', F_Map_join m a k = some (.nx m') ∧ ∃ hd, m' = { m with heads := m.heads.set k.toNat hd } ∧ HdI m.points k hd := by
  have sy := nrG_sym m.points k
  have ka : a ∈ keysOf m.points := by rw [ep]; exact mem_keys_put.mpr (.inr rfl)
  have kget_old : ∀ x, x ∈ keysOf old → kget m.points x = kget old x := fun x hx => by
    have ne : x ≠ a := fun e => ha (by rw [← e]; exact hx)
    rw [ep, kget_put, if_neg ne]
  have inn : ∀ x, x ∈ keysOf old → x ∈ keysOf m.points := fun x hx => by rw [ep]; exact mem_keys_put.mpr (.inl hx)
  have ndo : (keysOf old).Nodup := by
    have z := pn.nd
    rw [ep, keys_put, if_neg ha, List.nodup_append] at z
    exact z.1
  have strk : ∀ x, x ∈ keysOf m.points → PyData.strOk x = true := fun x hx => strOk_of (pn.nm x hx)
  generalize ehd : m.heads.getD k.toNat default = hd at H
  have hlen := H.len ndo
  have lold : old.length + 1 = m.points.length := by
    have z := congrArg List.length (show keysOf m.points = keysOf old ++ [a] by rw [ep, keys_put, if_neg ha])
    rw [List.length_append, List.length_map, List.length_map, List.length_singleton] at z
    exact z.symm
  have Hn : Hd (nrG m.points k) (keysOf old) (hdOf hd) := H.hd.congr (fun _ => Iff.rfl) (fun x y hx hy => (nrG_congr (kget_old x hx) (kget_old y hy)).symm) fun _ _ => rfl
  have inHd : ∀ x, x ∈ keysOf hd → x ∈ keysOf old := fun x hx => (H.mem x).mp hx
  have hdin : ∀ x, x ∈ keysOf hd → hdOf hd x ∈ keysOf old := fun x hx => Hn.mem (inHd x hx)
  have ghd : ∀ x, x ∈ keysOf hd → kget hd x = some (hdOf hd x) := fun x hx => kget_mem hx x
  unfold F_Map_join
  rw [gd_pos ⟨hk.1, by omega, small_le (by omega)⟩, lt_def, ehd, gd_pos (kget_some ka), lt_def, lt_def]
  refine for_ex (fun pre near => (∀ x, x ∈ keysOf near ↔ ∃ b, b ∈ pre ∧ nrG m.points k a b = true ∧ hdOf hd b = x) ∧ near.length ≤ pre.length ∧ ∀ x, x ∈ keysOf near → x ∈ keysOf old) ?_ ?_ ?_
  · exact ⟨fun x => ⟨fun z => (nomatch z), fun ⟨b, z, _⟩ => (nomatch z)⟩, Nat.le_refl 0, fun x hx => (nomatch hx)⟩
  · rintro pre o post near ex ⟨j1, j2, j3⟩
    have ho : o ∈ keysOf hd := by rw [ex]; simp
    have hlx := congrArg List.length ex
    rw [List.length_map, List.length_append, List.length_cons] at hlx
    dsimp only
    rw [gd_pos ⟨kget_some (inn o (inHd o ho)), hk⟩]
    have en : decide (chebP ((kget m.points a).getD default) ((kget m.points o).getD default) ≤ reachI k) = nrG m.points k a o := rfl
    rw [en]
    cases q : nrG m.points k a o with
    | true =>
      refine ⟨kput near (hdOf hd o) true, ?_, fun x => ?_, ?_, fun x hx => ?_⟩
      · show quiet (bindO (gd _ _) _) = _
        rw [gd_pos ⟨kget_some ho, small_lt (by omega)⟩, lt_def, ghd o ho]
        rfl
      · rw [mem_keys_put, j1]
        constructor
        · rintro (⟨b, h1, h2⟩ | rfl)
          · exact ⟨b, by simp [h1], h2⟩
          · exact ⟨o, by simp, q, rfl⟩
        · rintro ⟨b, h1, h2, h3⟩
          rcases List.mem_append.mp h1 with h1 | h1
          · exact .inl ⟨b, h1, h2, h3⟩
          · rw [List.mem_singleton] at h1
            exact .inr (by rw [← h3, h1])
      · have := put_len near (hdOf hd o) true
        rw [List.length_append, List.length_singleton]
        omega
      · rcases mem_keys_put.mp hx with hx | rfl
        · exact j3 x hx
        · exact hdin o ho
    | false =>
      refine ⟨near, rfl, fun x => ?_, by rw [List.length_append]; omega, j3⟩
      rw [j1]
      constructor
      · rintro ⟨b, h1, h2⟩
        exact ⟨b, by simp [h1], h2⟩
      · rintro ⟨b, h1, h2, h3⟩
        rcases List.mem_append.mp h1 with h1 | h1
        · exact ⟨b, h1, h2, h3⟩
        · rw [List.mem_singleton] at h1
          rw [h1, q] at h2
          cases h2
  · rintro near ⟨j1, j2, j3⟩
    rw [List.length_map] at j2
    have okz : ∀ x ∈ [a] ++ keysOf near, PyData.strOk x = true := fun x hx => by
      rcases List.mem_append.mp hx with hx | hx
      · rw [List.mem_singleton.mp hx]; exact strk a ka
      · exact strk x (inn x (j3 x hx))
    rw [gd_pos ⟨small_le (by rw [List.length_map, List.length_singleton]; omega), by simp, okz⟩, lt_def]
    obtain ⟨l1, l2⟩ := minS_spec (zs := [a] ++ keysOf near) (by simp)
    generalize minS ([a] ++ keysOf near) = least at l1 l2
    rw [gd_pos (small_lt (by omega)), lt_def]
    have ahd : a ∉ keysOf hd := fun z => ha (inHd a z)
    have kk : keysOf (kput hd a least) = keysOf hd ++ [a] := by rw [keys_put, if_neg ahd]
    refine for_ex (fun pre cur => keysOf cur = keysOf hd ++ [a] ∧ ∀ x, x ∈ keysOf hd ++ [a] → kget cur x = some (if x = a ∨ (x ∈ pre ∧ hdOf hd x ∈ keysOf near) then least else hdOf hd x)) ?_ ?_ ?_
    · refine ⟨kk, fun x hx => ?_⟩
      rw [kget_put]
      by_cases q : x = a
      · rw [if_pos q, if_pos (.inl q)]
      · rw [if_neg q, if_neg (by rintro (z | ⟨z, _⟩); exact q z; cases z)]
        exact ghd x ((List.mem_append.mp hx).resolve_right fun z => q (List.mem_singleton.mp z))
    · rintro pre o post cur ex ⟨c1, c2⟩
      rw [kk] at ex
      have ho : o ∈ keysOf hd ++ [a] := by rw [ex]; simp
      have hcl : cur.length = hd.length + 1 := by
        have z := congrArg List.length c1
        rwa [List.length_map, List.length_append, List.length_map, List.length_singleton] at z
      have nd2 : (pre ++ o :: post).Nodup := by
        rw [← ex, List.nodup_append]
        exact ⟨H.nd, by simp, fun x hx y hy => by rw [List.mem_singleton] at hy; subst hy; intro z; subst z; exact ahd hx⟩
      have nop : o ∉ pre := fun z => (List.nodup_append.mp nd2).2.2 o z o List.mem_cons_self rfl
      rw [gd_pos (kget_some (by rw [c1]; exact ho)), c2 o ho]
      have ekey : (kget near ((some (if o = a ∨ (o ∈ pre ∧ hdOf hd o ∈ keysOf near) then least else hdOf hd o)).getD default)).isSome = decide ((if o = a then least else hdOf hd o) ∈ keysOf near) := by
        rw [kget_isSome]
        congr 2
        by_cases q : o = a
        · rw [if_pos q]
          show (if _ then _ else _) = _
          rw [if_pos (.inl q)]
        · rw [if_neg q]
          show (if _ then _ else _) = _
          rw [if_neg (by rintro (z | ⟨z, _⟩); exact q z; exact nop z)]
      rw [ekey]
      by_cases q : (if o = a then least else hdOf hd o) ∈ keysOf near
      · rw [decide_eq_true q]
        refine ⟨kput cur o least, ?_, ?_, fun x hx => ?_⟩
        · show bindO (gd _ _) _ = _
          rw [gd_pos (small_lt (by omega)), lt_def]
          rfl
        · rw [keys_put, if_pos (by rw [c1]; exact ho), c1]
        · rw [kget_put]
          by_cases z : x = o
          · rw [if_pos z]
            by_cases y : x = a
            · rw [if_pos (.inl y)]
            · rw [if_pos (.inr ⟨by rw [z]; simp, by rw [z]; rw [if_neg (by rw [← z]; exact y)] at q; exact q⟩)]
          · rw [if_neg z, c2 x hx]
            congr 1
            by_cases y : x = a ∨ (x ∈ pre ∧ hdOf hd x ∈ keysOf near)
            · rw [if_pos y, if_pos (y.imp id fun w => ⟨by simp [w.1], w.2⟩)]
            · rw [if_neg y, if_neg]
              rintro (w | ⟨w1, w2⟩)
              · exact y (.inl w)
              · rcases List.mem_append.mp w1 with w1 | w1
                · exact y (.inr ⟨w1, w2⟩)
                · exact z (List.mem_singleton.mp w1)
      · rw [decide_eq_false q]
        refine ⟨cur, rfl, c1, fun x hx => ?_⟩
        rw [c2 x hx]
        congr 1
        by_cases y : x = a ∨ (x ∈ pre ∧ hdOf hd x ∈ keysOf near)
        · rw [if_pos y, if_pos (y.imp id fun w => ⟨by simp [w.1], w.2⟩)]
        · rw [if_neg y, if_neg]
          rintro (w | ⟨w1, w2⟩)
          · exact y (.inl w)
          · rcases List.mem_append.mp w1 with w1 | w1
            · exact y (.inr ⟨w1, w2⟩)
            · rw [List.mem_singleton] at w1
              subst w1
              rw [if_neg (fun z => y (.inl z))] at q
              exact q w2
    · rintro cur ⟨c1, c2⟩
      rw [lt_def]
      refine ⟨_, rfl, cur, rfl, ?_⟩
      have mem : ∀ n, n ∈ keysOf cur ↔ n ∈ keysOf m.points := fun n => by
        rw [c1, List.mem_append, List.mem_singleton, ep, mem_keys_put, H.mem]
      refine ⟨by rw [c1, ← kk]; exact nodup_put H.nd, mem, ?_⟩
      have J := Hn.join sy (a := a) (l := least) (nb := keysOf near) ha (fun x => (j1 x).trans ⟨fun ⟨b, h1, h2, h3⟩ => ⟨b, inHd b h1, h2, h3⟩, fun ⟨b, h1, h2, h3⟩ => ⟨b, (H.mem b).mpr h1, h2, h3⟩⟩) (by
        rcases List.mem_append.mp l1 with z | z
        · exact .inl (List.mem_singleton.mp z)
        · exact .inr z) (l2 a (by simp)) fun x hx => l2 x (List.mem_append_right _ hx)
      refine J.congr (fun x => ?_) (fun _ _ _ _ => rfl) fun x hx => ?_
      · rw [ep, mem_keys_put, List.mem_cons]
        exact Or.comm
      · have hx2 : x ∈ keysOf hd ++ [a] := by
          rw [List.mem_append, List.mem_singleton, H.mem]
          rcases List.mem_cons.mp hx with z | z
          · exact .inr z
          · exact .inl z
        show (if x = a ∨ hdOf hd x ∈ keysOf near then least else hdOf hd x) = (kget cur x).getD x
        rw [c2 x hx2, Option.getD_some]
        by_cases q : x = a ∨ hdOf hd x ∈ keysOf near
        · rw [if_pos q, if_pos]
          exact q.imp id fun w => ⟨by rw [kk]; exact hx2, w⟩
        · rw [if_neg q, if_neg fun w => q (w.imp id (·.2))]
/-! ### refusals, points -/
theorem okd_name {n : Str} (h : isNameS n = true) : OkD (.str n) := okD_str (strOk_of h)
theorem point_ok {m : PMap} {n : Str} (h : isNameS n = true) : F_Map_point m (.str n) = if n ∈ keysOf m.points then some (.rt (ptOf m.points n)) else some (.ex "BadName") := by
  unfold F_Map_point
  rw [gd_pos (short_of h), isName_str, h]
  show gd _ _ = _
  rw [gd_pos (isE_enc (f := eS) n), lt_def, unE_enc eS_inj, kget_isSome]
  by_cases q : n ∈ keysOf m.points
  · rw [if_pos q, decide_eq_true q]
    show gd _ _ = _
    rw [gd_pos rfl]
    rfl
  · rw [if_neg q, decide_eq_false q]
    rfl
theorem isPt_of {p : Int × Int} (h : (0 ≤ p.1 ∧ p.1 ≤ 4095) ∧ (0 ≤ p.2 ∧ p.2 ≤ 4095)) : isPoint (ePt p) = true := eP_isPoint h
theorem short_ePt {p : Int × Int} : Short (ePt p) := fun t e => by cases e
theorem ePt_inj (a b : Int × Int) (h : ePt a = ePt b) : a = b := eP_inj eI_inj eI_inj a b h
theorem getD_set_same {α : Type} {xs : List α} {k : Nat} {a d : α} (h : k < xs.length) : (xs.set k a).getD k d = a := by
  rw [List.getD_eq_getElem?_getD, List.getElem?_set_self h]
  rfl
theorem getD_set_ne {α : Type} {xs : List α} {k j : Nat} {a d : α} (h : k ≠ j) : (xs.set k a).getD j d = xs.getD j d := by
  rw [List.getD_eq_getElem?_getD, List.getD_eq_getElem?_getD, List.getElem?_set_ne h]
/-- between two sizes: those ahead are right for the new points, the others for the old ones -/
structure MidI (old new : Pts) (j : Nat) (m : PMap) : Prop where
  pts : m.points = new
  len : m.heads.length = 14
  lo : ∀ k : Nat, k < j → HdI new k (m.heads.getD k default)
  hi : ∀ k : Nat, j ≤ k → k < 14 → HdI old k (m.heads.getD k default)
theorem MidI.step {old new : Pts} {j : Nat} {m : PMap} {hd : List (Str × Str)} (hj : j < 14) (M : MidI old new j m) (H : HdI new j hd) : MidI old new (j + 1) { m with heads := m.heads.set j hd } := by
  have hl := M.len
  refine ⟨M.pts, by rw [List.length_set]; exact hl, fun k hk => ?_, fun k h1 h2 => ?_⟩
  · by_cases q : k = j
    · subst q
      show HdI new k ((m.heads.set k hd).getD k default)
      rw [getD_set_same (by omega)]
      exact H
    · show HdI new k ((m.heads.set j hd).getD k default)
      rw [getD_set_ne (Ne.symm q)]
      exact M.lo k (by omega)
  · show HdI old k ((m.heads.set j hd).getD k default)
    rw [getD_set_ne (by omega)]
    exact M.hi k (by omega) h2
theorem irange_at {pre post : List Int} {x : Int} (ex : irange 0 14 = pre ++ x :: post) : x = (pre.length : Int) ∧ pre.length < 14 := by
  have e : (irange 0 14)[pre.length]? = some x := by rw [ex]; simp
  have hp : pre.length < 14 := by
    have := congrArg List.length ex
    rw [irange_length, List.length_append, List.length_cons] at this
    omega
  unfold irange at e
  rw [List.getElem?_map, List.getElem?_range (by omega)] at e
  have : (0 : Int) + (pre.length : Int) = x := by simpa using e
  exact ⟨by omega, hp⟩
theorem put_len_new {pts : Pts} {n : Str} {p : Int × Int} (hn : n ∉ keysOf pts) : (kput pts n p).length = pts.length + 1 := by
  have z := congrArg List.length (keys_put pts n p)
  rw [if_neg hn, List.length_append, List.length_map, List.length_map, List.length_singleton] at z
  exact z
/-- a mark is put -/
theorem put_ok {m : PMap} {n : Str} {p : Int × Int} (I : MapI m) (hn : isNameS n = true) (hp : (0 ≤ p.1 ∧ p.1 ≤ 4095) ∧ (0 ≤ p.2 ∧ p.2 ≤ 4095)) (h1 : n ∉ keysOf m.points) (h2 : m.points.length < 60) : ∃ m', F_Map_put m (.str n) (ePt p) = some (.nx m') ∧ MapI m' ∧ m'.points = kput m.points n p := by
  have pn' := I.pn.put hn hp
  have lp := put_len_new (p := p) h1
  unfold F_Map_put
  rw [gd_pos (short_of hn), isName_str, hn]
  show ∃ m', gd _ _ = _ ∧ _
  rw [gd_pos (isE_enc (f := eS) n), lt_def, unE_enc eS_inj, kget_isSome, decide_eq_false h1, decide_eq_false (by omega : ¬ (60 : Int) ≤ (m.points.length : Int))]
  show ∃ m', gd _ _ = _ ∧ _
  rw [gd_pos short_ePt, isPt_of hp]
  show ∃ m', gd _ _ = _ ∧ _
  rw [gd_pos (isE_enc (f := ePt) p), lt_def, unE_enc ePt_inj, gd_pos (small_lt (by omega)), lt_def]
  refine for_ex (fun pre s => MidI m.points (kput m.points n p) pre.length s) ⟨rfl, I.len, fun k hk => absurd hk (Nat.not_lt_zero k), fun k _ hk => I.hs k hk⟩ ?_ ?_
  · intro pre k post s ex M
    obtain ⟨ek, hj⟩ := irange_at ex
    subst ek
    obtain ⟨m', e, hd, em, H⟩ := join_ok (m := s) (a := n) (k := (pre.length : Int)) (old := m.points) (p := p) ⟨by omega, by omega⟩ M.len h1 M.pts (by rw [M.pts]; exact pn') (by rw [M.pts]; omega) (M.hi _ (Nat.le_refl _) hj)
    have e2 : F_Map_join s n (pre.length : Int) = some (.nx m') := e
    rw [gd_pos ⟨m', e2⟩, lt_def]
    refine ⟨m', by rw [e2]; rfl, ?_⟩
    rw [em, List.length_append, List.length_singleton]
    exact M.step hj (by rw [M.pts] at H; exact H)
  · intro s M
    rw [irange_length] at M
    refine ⟨s, rfl, ⟨by rw [M.pts]; exact pn', by rw [M.pts]; omega, M.len, fun k hk => ?_⟩, M.pts⟩
    rw [M.pts]
    exact M.lo k hk
theorem put_ex {m : PMap} {n : Str} {p : D} (hn : isNameS n = true) (h : n ∈ keysOf m.points ∨ 60 ≤ m.points.length) : F_Map_put m (.str n) p = some (.ex "BadName") := by
  unfold F_Map_put
  rw [gd_pos (short_of hn), isName_str, hn]
  show gd _ _ = _
  rw [gd_pos (isE_enc (f := eS) n), lt_def, unE_enc eS_inj, kget_isSome]
  have : (decide (n ∈ keysOf m.points) || decide ((60 : Int) ≤ (m.points.length : Int))) = true := by
    rcases h with h | h
    · rw [decide_eq_true h]; rfl
    · rw [decide_eq_true (by omega : (60 : Int) ≤ (m.points.length : Int)), Bool.or_true]
  rw [this]
  rfl
end NM
/-! The map's answers. -/
namespace NM
open PySem PySem.Spec PyProof.Rows L2
open PySem.W (DatumOrd)
variable [Tbs]
/-! ### the same points, in whatever order -/
structure Ext (p q : Pts) : Prop where
  np : (keysOf p).Nodup
  nq : (keysOf q).Nodup
  eq : ∀ n, kget p n = kget q n
theorem Ext.mem {p q : Pts} (h : Ext p q) (n : Str) : n ∈ keysOf p ↔ n ∈ keysOf q := by
  have e := congrArg Option.isSome (h.eq n)
  rw [kget_isSome, kget_isSome] at e
  by_cases a : n ∈ keysOf p <;> by_cases b : n ∈ keysOf q <;> simp_all
theorem Ext.names {p q : Pts} (h : Ext p q) : names p = names q := up_ext (sortO_lt h.np) (sortO_lt h.nq) fun x => by rw [mem_sortO, mem_sortO]; exact h.mem x
theorem Ext.nr {p q : Pts} (h : Ext p q) (k : Int) : nrG p k = nrG q k := by
  funext a b
  exact nrG_congr (h.eq a) (h.eq b)
theorem Ext.len {p q : Pts} (h : Ext p q) : p.length = q.length := by
  have e := congrArg List.length h.names
  have l : ∀ r : Pts, (NM.names r).length = r.length := fun r => by rw [(sortO_perm _).length_eq, List.length_map]
  rwa [l, l] at e
theorem Ext.put {p q : Pts} (h : Ext p q) (n : Str) (a : Int × Int) : Ext (kput p n a) (kput q n a) := ⟨nodup_put h.np, nodup_put h.nq, fun x => by rw [kget_put, kget_put, h.eq]⟩
theorem Ext.drop {p q : Pts} (h : Ext p q) (n : Str) : Ext (kdrop p n) (kdrop q n) := ⟨by rw [keys_drop]; exact h.np.filter _, by rw [keys_drop]; exact h.nq.filter _, fun x => by rw [kget_drop, kget_drop, h.eq]⟩
theorem Ext.redo {p q : Pts} (h : Ext p q) (n : Str) (a : Int × Int) : Ext (kput (kdrop p n) n a) (kput q n a) := ⟨nodup_put (by rw [keys_drop]; exact h.np.filter _), nodup_put h.nq, fun x => by
  rw [kget_put, kget_put, kget_drop]
  by_cases e : x = n
  · rw [if_pos e, if_pos e]
  · rw [if_neg e, if_neg e, if_neg e, h.eq]⟩
/-! ### what a map tells -/
section
variable {m : PMap} {k : Int}
theorem names_len (r : Pts) : (names r).length = r.length := by rw [(sortO_perm _).length_eq, List.length_map]
theorem MapI.at (I : MapI m) (hk : 0 ≤ k ∧ k < 14) : HdI m.points k (m.heads.getD k.toNat default) := by
  have z := I.hs k.toNat (by omega)
  have e : ((k.toNat : Nat) : Int) = k := by omega
  rw [e] at z
  exact z
theorem HdI.names {pts : Pts} {hd : List (Str × Str)} (H : HdI pts k hd) : Hd (nrG pts k) (names pts) (hdOf hd) := H.hd.congr (fun x => mem_sortO.symm) (fun _ _ _ _ => rfl) fun _ _ => rfl
theorem size_gd (I : MapI m) (hk : 0 ≤ k ∧ k < 14) : 0 ≤ k ∧ k < (m.heads.length : Int) ∧ m.heads.length ≤ sizeLine := by
  have := I.len
  exact ⟨hk.1, by omega, small_le (by omega)⟩
theorem hd_gv {hd : List (Str × Str)} {x : Str} (hx : x ∈ keysOf hd) : (kget hd x).getD default = hdOf hd x := by
  rw [kget_mem hx x]
  rfl
theorem isSize_of (hk : 0 ≤ k ∧ k < 14) : isSize (.int k) = true := isSize_iff.mpr ⟨hk.1, by omega⟩
theorem short_int : Short (.int k) := fun t e => by cases e
theorem heapsM_ok (I : MapI m) (hk : 0 ≤ k ∧ k < 14) : F_Map_heaps m (.int k) = some (.rt (heads (nrG m.points k) (names m.points))) := by
  have H := I.at hk
  have few := I.few
  have up : Up (names m.points) := sortO_lt I.pn.nd
  have sy := nrG_sym m.points k
  unfold F_Map_heaps
  rw [gd_pos short_int, isSize_of hk]
  show gd _ _ = _
  rw [gd_pos (isE_enc (f := eI) k), lt_def, unE_enc eI_inj, gd_pos (size_gd I hk), lt_def]
  generalize m.heads.getD k.toNat default = hd at H
  have hl := H.len I.pn.nd
  have ef : ((keysOf hd).filter fun x => decide ((kget hd x).getD default = x)).map (fun x => x) = (keysOf hd).filter fun x => decide (hdOf hd x = x) := by
    rw [List.map_id']
    exact List.filter_congr fun x hx => by rw [hd_gv hx]
  rw [ef, gd_pos ⟨small_le (by omega), fun x hx => kget_some hx, fun x hx => strOk_of (I.pn.nm x ((H.mem x).mp (List.mem_filter.mp hx).1))⟩]
  congr 2
  rw [H.names.heads sy]
  refine up_ext (sortO_lt (H.nd.filter _)) (List.Pairwise.filter _ up) fun x => ?_
  rw [mem_sortO, List.mem_filter, List.mem_filter, mem_sortO, H.mem]
theorem names_at_ok (I : MapI m) (hk : 0 ≤ k ∧ k < 14) {h : Str} (hh : h ∈ heads (nrG m.points k) (names m.points)) : F_Map_names_at m (.str h) (.int k) = some (.rt (comp (nrG m.points k) (names m.points) h)) := by
  have H := I.at hk
  have few := I.few
  have up : Up (names m.points) := sortO_lt I.pn.nd
  have sy := nrG_sym m.points k
  obtain ⟨h1, h2⟩ := mem_heads.mp hh
  have hp : h ∈ keysOf m.points := mem_sortO.mp h1
  have hn := I.pn.nm h hp
  unfold F_Map_names_at
  rw [gd_pos (short_of hn), isName_str, hn]
  show gd _ _ = _
  rw [gd_pos (isE_enc (f := eS) h), lt_def, unE_enc eS_inj, gd_pos short_int, isSize_of hk]
  show gd _ _ = _
  rw [gd_pos (isE_enc (f := eI) k), lt_def, unE_enc eI_inj, gd_pos (size_gd I hk), lt_def]
  generalize m.heads.getD k.toNat default = hd at H
  have hl := H.len I.pn.nd
  have hin : h ∈ keysOf hd := (H.mem h).mpr hp
  have eh : hdOf hd h = h := (H.names.head sy h1).mp h2
  rw [gd_pos fun _ => kget_some hin, kget_some hin, hd_gv hin, eh, decide_eq_true rfl]
  show gd _ _ = _
  have ef : ((keysOf hd).filter fun x => decide ((kget hd x).getD default = h)).map (fun x => x) = (keysOf hd).filter fun x => decide (hdOf hd x = h) := by
    rw [List.map_id']
    exact List.filter_congr fun x hx => by rw [hd_gv hx]
  rw [ef, gd_pos ⟨small_le (by omega), fun x hx => kget_some hx, fun x hx => strOk_of (I.pn.nm x ((H.mem x).mp (List.mem_filter.mp hx).1))⟩]
  congr 2
  rw [H.names.comp sy h1 eh]
  refine up_ext (sortO_lt (H.nd.filter _)) (List.Pairwise.filter _ up) fun x => ?_
  rw [mem_sortO, List.mem_filter, List.mem_filter, mem_sortO, H.mem]
theorem namesM_ok (I : MapI m) (hk : 0 ≤ k ∧ k < 14) {h : Str} (hh : h ∈ heads (nrG m.points k) (names m.points)) : F_Map_names m (.str h) (.int k) = some (.rt (comp (nrG m.points k) (names m.points) h)) := by
  unfold F_Map_names
  rw [names_at_ok I hk hh]
  rfl
end
end NM
/-! A map is filled. -/
namespace NM
open PySem PySem.Spec PyProof.Rows L2
open PySem.W (DatumOrd)
variable [Tbs]
/-- m holds the points of pts but for those left -/
structure Fil (m : PMap) (pts : Pts) (left : List Str) : Prop where
  I : MapI m
  nd : left.Nodup
  inn : ∀ n, n ∈ left → n ∈ keysOf pts
  mem : ∀ n, n ∈ keysOf m.points ↔ n ∈ keysOf pts ∧ n ∉ left
  eq : ∀ n, n ∈ keysOf m.points → kget m.points n = kget pts n
theorem Fil.start {pts : Pts} {left : List Str} (nd : left.Nodup) (h : ∀ n, n ∈ left ↔ n ∈ keysOf pts) : Fil ⟨[], (irange 0 14).map fun _ => []⟩ pts left := ⟨init_I, nd, fun n hn => (h n).mp hn, fun n => ⟨fun z => (nomatch z), fun ⟨a, b⟩ => absurd ((h n).mpr a) b⟩, fun n hn => (nomatch hn)⟩
theorem Fil.step {m : PMap} {pts : Pts} {left left' : List Str} {n : Str} (F : Fil m pts left) (pn : Pn pts) (few : pts.length ≤ 60) (hn : n ∈ left) (nd' : left'.Nodup) (h' : ∀ x, x ∈ left' ↔ x ∈ left ∧ x ≠ n) : ∃ m', F_Map_put m (.str n) (ePt (ptOf pts n)) = some (.nx m') ∧ Fil m' pts left' := by
  have hk := F.inn n hn
  have hnot : n ∉ keysOf m.points := fun z => ((F.mem n).mp z).2 hn
  have len : m.points.length < 60 := by
    have p : (keysOf m.points).Perm ((keysOf pts).filter fun x => decide (x ∈ keysOf m.points)) := (List.perm_ext_iff_of_nodup F.I.pn.nd (pn.nd.filter _)).mpr fun x => by
      rw [List.mem_filter]
      exact ⟨fun hx => ⟨((F.mem x).mp hx).1, decide_eq_true hx⟩, fun hx => of_decide_eq_true hx.2⟩
    have z := p.length_eq
    have z2 := filter_len (fun x => decide (x ∈ keysOf m.points)) (keysOf pts)
    have z3 : 0 < ((keysOf pts).filter fun x => !decide (x ∈ keysOf m.points)).length := List.length_pos_of_mem (List.mem_filter.mpr ⟨hk, by rw [decide_eq_false hnot]; rfl⟩)
    rw [List.length_map] at z z2
    omega
  obtain ⟨m', e, I', ep⟩ := put_ok (p := ptOf pts n) F.I (pn.nm n hk) (pt_mem pn hk) hnot len
  refine ⟨m', e, I', nd', fun x hx => F.inn x ((h' x).mp hx).1, fun x => ?_, fun x hx => ?_⟩
  · rw [ep, mem_keys_put, F.mem, h']
    by_cases q : x = n
    · subst q
      exact ⟨fun _ => ⟨hk, fun z => z.2 rfl⟩, fun _ => .inr rfl⟩
    · constructor
      · rintro (⟨a, b⟩ | z)
        · exact ⟨a, fun z => b z.1⟩
        · exact absurd z q
      · rintro ⟨a, b⟩
        exact .inl ⟨a, fun z => b ⟨z, q⟩⟩
  · rw [ep] at hx ⊢
    rw [kget_put]
    by_cases q : x = n
    · rw [if_pos q, q, kget_mem hk default]
      rfl
    · rw [if_neg q]
      exact F.eq x ((mem_keys_put.mp hx).resolve_right q)
theorem Fil.done {m : PMap} {pts : Pts} (F : Fil m pts []) (pn : Pn pts) : Ext m.points pts := ⟨F.I.pn.nd, pn.nd, fun n => by
  by_cases q : n ∈ keysOf m.points
  · exact F.eq n q
  · rw [kget_none q, kget_none fun z => q ((F.mem n).mpr ⟨z, by simp⟩)]⟩
end NM
namespace NM
open PySem PySem.Spec PyProof.Rows L2
open PySem.W (DatumOrd)
variable [Tbs]
theorem okd_word {n : Nat} {x : Str} (h : PyData.strOk x = true) : Okd (n + 1) (wordD x) := fun d hd => by
  simp only [List.mem_cons, List.not_mem_nil, or_false] at hd
  have z : PyData.strOk ("refused" : Str) = true := by decide +kernel
  rcases hd with rfl | rfl
  · cases n <;> exact z
  · cases n <;> exact h
theorem erow_inj (a b : List Str) (h : eR eS a = eR eS b) : a = b := eR_inj eS_inj h
theorem erows_inj (a b : List (List Str)) (h : eL (eR eS) a = eL (eR eS) b) : a = b := eL_inj erow_inj h
theorem okD_rows {xs : List (List Str)} (h : ∀ r ∈ xs, ∀ x ∈ r, PyData.strOk x = true) : OkD (eL (eR eS) xs) := ⟨2, by decide, okL fun r hr => okR fun x hx => h r hr x hx⟩
/-- the law's dict of heaps -/
noncomputable abbrev dueD (nr : Str → Str → Bool) (S : List Str) : List (Str × List Str) := (heads nr S).map fun h => (h, comp nr S h)
theorem due_keys (nr : Str → Str → Bool) (S : List Str) : keysOf (dueD nr S) = heads nr S := by
  show List.map _ (List.map _ _) = _
  rw [List.map_map]
  exact List.map_id _
theorem due_get {nr : Str → Str → Bool} {S : List Str} {h : Str} (hh : h ∈ heads nr S) : kget (dueD nr S) h = some (comp nr S h) := by rw [kget_map, if_pos hh]
theorem due_rows {nr : Str → Str → Bool} {S : List Str} (up : Up S) : (sortO (keysOf (dueD nr S))).map (fun h => (kget (dueD nr S) h).getD default) = heapsS nr S := by
  rw [due_keys, sortO_id (lt_pw (heads_up up))]
  unfold heapsS
  refine List.map_congr_left fun h hh => ?_
  rw [due_get hh]
  rfl
theorem sortO_heads {nr : Str → Str → Bool} {S : List Str} (up : Up S) : sortO (keysOf (dueD nr S)) = heads nr S := by rw [due_keys, sortO_id (lt_pw (heads_up up))]
end NM
namespace NM
open PySem PySem.Spec PyProof.Rows L2
open PySem.W (DatumOrd)
variable [Tbs]
theorem reachI_mono {i j : Int} (h0 : 0 ≤ i) (h : i ≤ j) (hj : j < 14) : reachI i ≤ reachI j := by
  obtain ⟨a, rfl⟩ := Int.eq_ofNat_of_zero_le h0
  obtain ⟨b, rfl⟩ := Int.eq_ofNat_of_zero_le (Int.le_trans h0 h)
  have hb : b < 14 := by omega
  have hab : a ≤ b := by omega
  have key : ∀ b < 14, ∀ a ≤ b, reachN a ≤ reachN b := by decide +kernel
  exact key b hb a hab
theorem nrG_mono {pts : Pts} {i j : Int} (h0 : 0 ≤ i) (h : i ≤ j) (hj : j < 14) (a b : Str) (n : nrG pts i a b = true) : nrG pts j a b = true := by
  unfold nrG at *
  have := reachI_mono h0 h hj
  have := of_decide_eq_true n
  exact decide_eq_true (by omega)
end NM
/-! What a map of some points tells, by the points. -/
namespace NM
open PySem PySem.Spec PyProof.Rows L2
open PySem.W (DatumOrd)
variable [Tbs]
theorem Ext.pt {p q : Pts} (h : Ext p q) (n : Str) : ptOf p n = ptOf q n := by unfold ptOf; rw [h.eq]
section
variable {m : PMap} {pts : Pts} {k : Int} {h : Str}
theorem comp_facts (I : MapI m) (E : Ext m.points pts) (hh : h ∈ heads (nrG pts k) (names pts)) : comp (nrG pts k) (names pts) h ≠ [] ∧ (comp (nrG pts k) (names pts) h).length ≤ 60 ∧ ∀ n, n ∈ comp (nrG pts k) (names pts) h → n ∈ keysOf m.points := by
  obtain ⟨h1, h2⟩ := mem_heads.mp hh
  refine ⟨fun z => ?_, ?_, fun n hn => (E.mem n).mpr (mem_sortO.mp (mem_comp.mp hn).r)⟩
  · have : h ∈ comp (nrG pts k) (names pts) h := mem_comp.mpr (.refl h h1)
    rw [z] at this
    cases this
  · have := List.length_filter_le (fun n => @decide (Cn (nrG pts k) (names pts) h n) (Classical.propDecidable _)) (names pts)
    have l := names_len pts
    have e := E.len
    have f := I.few
    unfold comp
    omega
theorem names_atE (I : MapI m) (E : Ext m.points pts) (hk : 0 ≤ k ∧ k < 14) (hh : h ∈ heads (nrG pts k) (names pts)) : F_Map_names_at m (.str h) (.int k) = some (.rt (comp (nrG pts k) (names pts) h)) := by
  have z := names_at_ok I hk (h := h) (by rw [E.names, E.nr]; exact hh)
  rw [E.names, E.nr] at z
  exact z
theorem namesE (I : MapI m) (E : Ext m.points pts) (hk : 0 ≤ k ∧ k < 14) (hh : h ∈ heads (nrG pts k) (names pts)) : F_Map_names m (.str h) (.int k) = some (.rt (comp (nrG pts k) (names pts) h)) := by
  unfold F_Map_names
  rw [names_atE I E hk hh]
  rfl
theorem heapsE (I : MapI m) (E : Ext m.points pts) (hk : 0 ≤ k ∧ k < 14) : F_Map_heaps m (.int k) = some (.rt (heads (nrG pts k) (names pts))) := by
  have z := heapsM_ok I hk
  rw [E.names, E.nr] at z
  exact z
end
/-- what a mark's size holds of it -/
theorem MapI.hdE {m : PMap} {pts : Pts} {k : Int} (I : MapI m) (E : Ext m.points pts) (hk : 0 ≤ k ∧ k < 14) :
    let hd := m.heads.getD k.toNat default
    (∀ n, n ∈ keysOf hd ↔ n ∈ keysOf pts) ∧ (keysOf hd).Nodup ∧ Hd (nrG pts k) (names pts) (hdOf hd) := by
  have H := I.at hk
  refine ⟨fun n => (H.mem n).trans (E.mem n), H.nd, ?_⟩
  have z := H.names
  rw [E.names, E.nr] at z
  exact z
theorem nr13 {pts : Pts} (h : Pn pts) {a b : Str} (ha : a ∈ keysOf pts) (hb : b ∈ keysOf pts) : nrG pts 13 a b = true := by
  have e := cheb_le (eP_isPoint (pt_mem h ha)) (eP_isPoint (pt_mem h hb))
  unfold nrG
  refine decide_eq_true ?_
  have r : reachI 13 = 4096 := by decide +kernel
  rw [r]
  show cheb _ _ _ _ ≤ _
  omega
theorem comp13 {pts : Pts} (pn : Pn pts) {h : Str} (hh : h ∈ names pts) : comp (nrG pts 13) (names pts) h = names pts := by
  unfold comp
  refine List.filter_eq_self.mpr fun n hn => @decide_eq_true _ (Classical.propDecidable _) (.step (.refl h hh) hn (nr13 pn (mem_sortO.mp hh) (mem_sortO.mp hn)))
/-- a map is filled in some turn -/
theorem Fil.loop {pts : Pts} {xs pre post : List Str} {x : Str} {m : PMap} (pn : Pn pts) (few : pts.length ≤ 60) (nd : xs.Nodup) (e : xs = pre ++ x :: post) (F : Fil m pts (xs.filter fun n => decide (n ∉ pre))) :
    ∃ m', F_Map_put m (.str x) (ePt (ptOf pts x)) = some (.nx m') ∧ Fil m' pts (xs.filter fun n => decide (n ∉ pre ++ [x])) := by
  obtain ⟨x1, x2⟩ := nodup_split nd e
  refine F.step pn few (List.mem_filter.mpr ⟨by rw [e]; simp, decide_eq_true x1⟩) (nd.filter _) fun y => ?_
  rw [List.mem_filter, List.mem_filter]
  simp only [List.mem_append, List.mem_singleton, not_or, decide_eq_true_eq]
  exact ⟨fun ⟨a, b, c⟩ => ⟨⟨a, b⟩, c⟩, fun ⟨⟨a, b⟩, c⟩ => ⟨a, b, c⟩⟩
theorem Fil.end {pts : Pts} {xs : List Str} {m : PMap} (pn : Pn pts) (F : Fil m pts (xs.filter fun n => decide (n ∉ xs))) : Ext m.points pts := by
  have e : (xs.filter fun n => decide (n ∉ xs)) = [] := List.filter_eq_nil_iff.mpr fun n hn z => of_decide_eq_true z hn
  rw [e] at F
  exact F.done pn
theorem Fil.begin {pts : Pts} {xs : List Str} (nd : xs.Nodup) (h : ∀ n, n ∈ xs ↔ n ∈ keysOf pts) : Fil ⟨[], (irange 0 14).map fun _ => []⟩ pts (xs.filter fun n => decide (n ∉ ([] : List Str))) :=
  Fil.start (nd.filter _) fun n => by
    rw [List.mem_filter]
    simp only [List.not_mem_nil, not_false_eq_true, decide_true, and_true]
    exact h n
end NM
/-! A heap is opened. -/
namespace NM
open PySem PySem.Spec PyProof.Rows L2
open PySem.W (DatumOrd)
variable [Tbs]
/-- the heaps at k that begin by some of the marks -/
noncomputable def rowsAt (pts : Pts) (ns : List Str) (k : Int) : List Str := (heads (nrG pts k) (names pts)).filter fun h => decide (h ∈ ns)
/-- how a heap falls below n -/
noncomputable def fall (pts : Pts) (ns : List Str) (h : Str) : Nat → Int × List Str
  | 0 => (0, [h])
  | n + 1 => if 1 < (rowsAt pts ns (n : Int)).length then ((n : Int), rowsAt pts ns n) else fall pts ns h n
theorem fall_skip {pts : Pts} {ns : List Str} {h : Str} {i : Nat} : ∀ {n : Nat}, i ≤ n → (∀ j, i ≤ j → j < n → (rowsAt pts ns (j : Int)).length ≤ 1) → fall pts ns h n = fall pts ns h i
  | 0, hi, _ => by rw [Nat.le_zero.mp hi]
  | n + 1, hi, hj => by
    by_cases e : i = n + 1
    · rw [e]
    · show (if 1 < (rowsAt pts ns (n : Int)).length then ((n : Int), rowsAt pts ns n) else fall pts ns h n) = _
      rw [if_neg (by have := hj n (by omega) (by omega); omega)]
      exact fall_skip (by omega) fun j a b => hj j a (by omega)
theorem rowsAt_up (pts : Pts) (pn : Pn pts) (ns : List Str) (k : Int) : Up (rowsAt pts ns k) := List.Pairwise.filter _ (heads_up (sortO_lt pn.nd))
theorem mem_rowsAt {pts : Pts} {ns : List Str} {k : Int} {x : Str} : x ∈ rowsAt pts ns k ↔ x ∈ heads (nrG pts k) (names pts) ∧ x ∈ ns := by
  unfold rowsAt
  rw [List.mem_filter]
  exact ⟨fun h => ⟨h.1, of_decide_eq_true h.2⟩, fun h => ⟨h.1, decide_eq_true h.2⟩⟩
section
variable {m : PMap} {pts : Pts} {k : Int} {h : Str}
theorem opened_ok (I : MapI m) (E : Ext m.points pts) (pn : Pn pts) (hk : 0 ≤ k ∧ k < 14) (hh : h ∈ heads (nrG pts k) (names pts)) : F_Map_opened m (.str h) (.int k) = some (.rt (fall pts (comp (nrG pts k) (names pts) h) h k.toNat)) := by
  have e1 := names_atE I E hk hh
  obtain ⟨c1, c2, c3⟩ := comp_facts I E hh
  have upC : Up (comp (nrG pts k) (names pts) h) := comp_up (sortO_lt pn.nd) h
  generalize comp (nrG pts k) (names pts) h = ns at *
  unfold F_Map_opened
  rw [e1]
  show gd _ _ = _
  rw [gd_pos (isE_enc (f := eS) h), lt_def, unE_enc eS_inj, gd_pos (isE_enc (f := eI) k), lt_def, unE_enc eI_inj, lt_def]
  refine while_RB (fun o => o = some (.rt (fall pts ns h k.toNat))) (fun s => 0 ≤ s ∧ s ≤ k ∧ fall pts ns h k.toNat = fall pts ns h s.toNat) (fun s => s.toNat) ⟨hk.1, Int.le_refl _, rfl⟩ ?_ ?_
  · rintro s ⟨s0, sk, es⟩
    refine ⟨trivial, fun hc => ?_⟩
    have hc : 0 < s := of_decide_eq_true hc
    rw [lt_def]
    have hs : 0 ≤ s - 1 ∧ s - 1 < 14 := by omega
    obtain ⟨H1, H2, H3⟩ := I.hdE E hs
    rw [gd_pos (size_gd I hs), lt_def]
    generalize m.heads.getD (s - 1).toNat default = hd at H1 H2 H3
    have inn : ∀ n, n ∈ ns → n ∈ keysOf hd := fun n hn => (H1 n).mpr ((E.mem n).mp (c3 n hn))
    have okn : ∀ n, n ∈ ns → PyData.strOk n = true := fun n hn => strOk_of (I.pn.nm n (c3 n hn))
    have ef : (ns.filter fun x => decide ((kget hd x).getD default = x)).map (fun x => x) = ns.filter fun x => decide (hdOf hd x = x) := by
      rw [List.map_id']
      exact List.filter_congr fun x hx => by rw [hd_gv (inn x hx)]
    rw [ef, gd_pos ⟨small_le (by omega), fun x hx => kget_some (inn x hx), fun x hx => okn x (List.mem_filter.mp hx).1⟩, lt_def]
    have er : sortO (ns.filter fun x => decide (hdOf hd x = x)) = rowsAt pts ns (s - 1) := by
      refine up_ext (sortO_lt (upC.nodup.filter _)) (rowsAt_up pts pn ns _) fun x => ?_
      rw [mem_sortO, mem_rowsAt, List.mem_filter, mem_heads]
      constructor
      · rintro ⟨a, b⟩
        have hx : x ∈ names pts := mem_sortO.mpr ((E.mem x).mp (c3 x a))
        exact ⟨⟨hx, (H3.head (nrG_sym pts _) hx).mpr (of_decide_eq_true b)⟩, a⟩
      · rintro ⟨⟨a, b⟩, c⟩
        exact ⟨c, decide_eq_true ((H3.head (nrG_sym pts _) a).mp b)⟩
    rw [er]
    have es1 : s.toNat = (s - 1).toNat + 1 := by omega
    have es2 : (((s - 1).toNat : Nat) : Int) = s - 1 := by omega
    have ef2 : fall pts ns h s.toNat = if 1 < (rowsAt pts ns (s - 1)).length then (s - 1, rowsAt pts ns (s - 1)) else fall pts ns h (s - 1).toNat := by
      rw [es1]
      show (if 1 < (rowsAt pts ns (((s - 1).toNat : Nat) : Int)).length then ((((s - 1).toNat : Nat) : Int), rowsAt pts ns (((s - 1).toNat : Nat) : Int)) else _) = _
      rw [es2]
    by_cases q : 1 < (rowsAt pts ns (s - 1)).length
    · right
      rw [if_pos q] at ef2
      refine ⟨(s - 1, rowsAt pts ns (s - 1)), ?_, by rw [es, ef2]⟩
      rw [decide_eq_true (by omega)]
      rfl
    · left
      rw [if_neg q] at ef2
      refine ⟨s - 1, ?_, ⟨hs.1, by omega, by rw [es, ef2]⟩, by omega⟩
      rw [decide_eq_false (by omega)]
      rfl
  · rintro s ⟨s0, sk, es⟩ hc
    have hc : ¬ 0 < s := of_decide_eq_false hc
    have : s = 0 := by omega
    subst this
    rw [es]
    rfl
end
end NM
/-! What falls, in general. -/
namespace NM
open PySem PySem.Spec PyProof.Rows L2
open PySem.W (DatumOrd)
variable [Tbs]
theorem rgc_down {k : Int} (hk : 0 ≤ k ∧ k < 14) : RgC (k - 1) (-1) (-1) k.toNat := by
  obtain ⟨n, rfl⟩ := Int.eq_ofNat_of_zero_le hk.1
  have hn : n < 14 := by omega
  have key : ∀ n < 14, ((-1 : Int) ≠ 0 ∧ (-1 : Int).natAbs < 1073741824 ∧ Builtin.Range.small (((n : Nat) : Int) - 1) (-1) (-1) = true ∧ Builtin.Range.rangeSize (((n : Nat) : Int) - 1) (-1) (-1) = ((((n : Nat) : Int).toNat : Nat) : Int)) := by decide +kernel
  exact key n hn
theorem rows_split {pts : Pts} {k low : Int} {h : Str} (pn : Pn pts) (hk : 0 ≤ low ∧ low ≤ k ∧ k < 14) (x : Str) :
    (∃ g ∈ rowsAt pts (comp (nrG pts k) (names pts) h) low, Cn (nrG pts low) (names pts) g x) ↔ x ∈ comp (nrG pts k) (names pts) h := by
  have up : Up (names pts) := sortO_lt pn.nd
  have sub : ∀ {a b : Str}, Cn (nrG pts low) (names pts) a b → Cn (nrG pts k) (names pts) a b := fun c => c.mono fun a b => nrG_mono hk.1 hk.2.1 hk.2.2 a b
  constructor
  · rintro ⟨g, hg, c⟩
    exact mem_comp.mpr ((mem_comp.mp (mem_rowsAt.mp hg).2).trans (sub c))
  · intro hx
    have cn := mem_comp.mp hx
    obtain ⟨g, g1, g2, g3⟩ := has_head (nr := nrG pts low) up (nrG_sym pts low) cn.r
    exact ⟨g, mem_rowsAt.mpr ⟨mem_heads.mpr ⟨g2, g1⟩, mem_comp.mpr (cn.trans ((sub g3).symm (nrG_sym pts k)))⟩, g3⟩
section
variable {nr nr' : Str → Str → Bool} {S : List Str}
theorem cn_same (h : ∀ a b, a ∈ S → b ∈ S → nr a b = nr' a b) (a b : Str) : Cn nr S a b ↔ Cn nr' S a b :=
  ⟨fun c => c.congr (fun _ x => x) h, fun c => c.congr (fun _ x => x) fun a b ha hb => (h a b ha hb).symm⟩
end
end NM
/-! Few points. -/
namespace NM
open PySem PySem.Spec PyProof.Rows L2
open PySem.W (DatumOrd)
variable [Tbs]
theorem cdiv20 (i : Int) : CDiv i ((2 : Int) ^ (20 : Int).toNat) := by constructor <;> decide
theorem cdivw30 (i : Int) : CDivW i ((2 : Int) ^ (30 : Int).toNat) := by constructor <;> decide
theorem cdivw40 (i : Int) : CDivW i ((2 : Int) ^ (40 : Int).toNat) := by constructor <;> decide
theorem atI_some {α : Type} {xs : List α} {i : Int} (h0 : 0 ≤ i) (h : i < xs.length) : ∃ x, L2.atI xs i = some x ∧ x ∈ xs := by
  obtain ⟨n, rfl⟩ := Int.eq_ofNat_of_zero_le h0
  have hn : n < xs.length := by omega
  exact ⟨xs[n], atI_nat (List.getElem?_eq_getElem hn), List.getElem_mem hn⟩
theorem law_few {m many : Int} (h1 : 0 ≤ many) (h2 : many ≤ 60) : ∃ pts, F__law_few m many = some (.rt pts) ∧ Pn pts ∧ (pts.length : Int) ≤ many ∧ ∀ n ∈ keysOf pts, n.length = 2 := by
  have r0 : 0 ≤ m % (many + 1) := Int.emod_nonneg _ (by omega)
  have r1 : m % (many + 1) < many + 1 := Int.emod_lt_of_pos _ (by omega)
  unfold F__law_few
  rw [lt_def, gd_pos ⟨by omega, by omega, by omega⟩]
  refine for_R (fun o => ∃ pts, o = some (.rt pts) ∧ Pn pts ∧ (pts.length : Int) ≤ many ∧ ∀ n ∈ keysOf pts, n.length = 2) (fun pre s => Pn s ∧ s.length ≤ pre.length ∧ ∀ n ∈ keysOf s, n.length = 2) ⟨Pn.nil, Nat.le_refl _, fun _ z => nomatch z⟩ (fun pre x post s ex ⟨i1, i2, i3⟩ => ?_) fun s ⟨i1, i2, i3⟩ => ⟨s, rfl, i1, ?_, i3⟩
  · have hx : 0 ≤ x ∧ x < m % (many + 1) := mem_irange.mp (by rw [ex]; simp)
    have hl := congrArg List.length ex
    rw [irange_length, List.length_append, List.length_cons] at hl
    rw [gd_pos ⟨by omega, by omega⟩, lt_def]
    generalize drawnI m (40 + x) = here
    rw [lt_def]
    -- behind the point
    have tail : ∀ p : Int × Int, ((0 ≤ p.1 ∧ p.1 ≤ 4095) ∧ (0 ≤ p.2 ∧ p.2 ≤ 4095)) → ∃ s', (gd ((CDivW here ((2 : Int) ^ ((40 : Int)).toNat)) ∧ (IsRt (F__law_name ((here / ((2 : Int) ^ ((40 : Int)).toNat)) % (30 : Int)))) ∧ (s.length < sizeLine)) <|
        lt (kput s (valO (F__law_name ((here / ((2 : Int) ^ ((40 : Int)).toNat)) % (30 : Int)))) p) fun found => some (.nx found) : Pg Pts Pts) = some (.nx s') ∧ Pn s' ∧ s'.length ≤ (pre ++ [x]).length ∧ ∀ n ∈ keysOf s', n.length = 2 := fun p hp => by
      generalize here / (2 : Int) ^ ((40 : Int)).toNat = q
      have hd : 0 ≤ q % 30 ∧ q % 30 < 30 := ⟨Int.emod_nonneg _ (by decide), Int.emod_lt_of_pos _ (by decide)⟩
      have en := law_name (j := q % 30) hd.1 (by omega)
      rw [gd_pos ⟨cdivw40 _, isRt_of en, small_lt (by omega)⟩, lt_def, valO_eq en]
      refine ⟨_, rfl, i1.put (nameOf_ok hd.1 (by omega)) hp, ?_, fun n hn => ?_⟩
      · have := put_len s (nameOf (q % 30)) p
        rw [List.length_append, List.length_singleton]
        omega
      · rw [keys_put] at hn
        split at hn
        · exact i3 n hn
        · rcases List.mem_append.mp hn with h | h
          · exact i3 n h
          · rw [List.mem_singleton.mp h]
            rfl
    by_cases hne : s.isEmpty = true
    · rw [hne]
      exact tail _ ⟨ptX_le _, ptY_le _⟩
    · have hs : 0 < s.length := List.length_pos_iff.mpr fun z => hne (by rw [z]; rfl)
      rw [Bool.eq_false_iff.mpr hne]
      by_cases h3 : 0 < here % 3
      · rw [decide_eq_true h3]
        have lk : (sortO (keysOf s)).length = s.length := by rw [(sortO_perm _).length_eq, List.length_map]
        have hd : 0 ≤ here / 8 % (s.length : Int) ∧ here / 8 % (s.length : Int) < s.length := ⟨Int.emod_nonneg _ (by omega), Int.emod_lt_of_pos _ (by omega)⟩
        obtain ⟨n, en, hn⟩ := atI_some (xs := sortO (keysOf s)) hd.1 (by rw [lk]; exact hd.2)
        have hk := mem_sortO.mp hn
        obtain ⟨by_, eb, hb⟩ := atI_some (xs := [(1 : Int), 2, 5, 40]) (i := here / 64 % 4) (Int.emod_nonneg _ (by decide)) (by have := Int.emod_lt_of_pos (here / 64) (b := 4) (by decide); simpa using this)
        have hb0 : 0 < by_ + 1 := by
          simp only [List.mem_cons, List.not_mem_nil, or_false] at hb
          omega
        have pm := pt_mem i1 hk
        unfold ptOf at pm
        show ∃ s', bindO (gd _ _) _ = _ ∧ _
        rw [en, Option.getD_some, gd_pos ⟨by omega, by omega, rfl, kget_some hk⟩, lt_def, eb, Option.getD_some, gd_pos Option.isSome_some, lt_def, gd_pos ⟨cdiv20 _, hb0, cdivw30 _, hb0⟩, lt_def]
        refine tail _ ⟨?_, ?_⟩
        · have a := Int.emod_nonneg (here / (2 : Int) ^ ((20 : Int)).toNat) (b := by_ + 1) (by omega)
          dsimp only
          omega
        · have a := Int.emod_nonneg (here / (2 : Int) ^ ((30 : Int)).toNat) (b := by_ + 1) (by omega)
          dsimp only
          omega
      · rw [decide_eq_false h3]
        exact tail _ ⟨ptX_le _, ptY_le _⟩
  · rw [irange_length] at i2
    omega
/-! ### where two marks meet -/
end NM
/-! The law's map, filled in drawn order. -/
namespace NM
open PySem PySem.Spec PyProof.Rows L2
open PySem.W (DatumOrd)
variable [Tbs]
theorem law_map {pts : Pts} {more : Int} (pn : Pn pts) (few : pts.length ≤ 60) : ∃ m, F__law_map pts more = some (.rt m) ∧ MapI m ∧ Ext m.points pts := by
  have ndn : (names pts).Nodup := sortO_nodup pn.nd
  have okS : ∀ n ∈ names pts, PyData.strOk n = true := fun n hn => strOk_of (pn.nm n (mem_sortO.mp hn))
  have lenS := names_len pts
  unfold F__law_map
  rw [gd_pos ⟨_, init_ok⟩, init_ok, lt_def, gd_pos (by omega), lt_def]
  refine while_R (fun o => ∃ m, o = some (.rt m) ∧ MapI m ∧ Ext m.points pts) (fun s => Fil s.1 pts s.2 ∧ s.2.length ≤ 60) (fun s => s.2.length) ?_ ?_ ?_
  · exact ⟨Fil.start ndn fun n => mem_sortO, by show (names pts).length ≤ 60; omega⟩
  · rintro ⟨m, left⟩ ⟨F, l60⟩
    dsimp only at F l60 ⊢
    have okl : ∀ n ∈ left, PyData.strOk n = true := fun n hn => strOk_of (pn.nm n (F.inn n hn))
    refine ⟨⟨okD_strs okl, okD_strs fun x hx => nomatch hx⟩, fun hc => ?_⟩
    rw [deq_L eS_inj] at hc
    have hne : left ≠ [] := by simpa using hc
    have hpos : 0 < left.length := List.length_pos_iff.mpr hne
    have hm : 0 ≤ drawnI more (left.length : Int) % (left.length : Int) ∧ drawnI more (left.length : Int) % (left.length : Int) < (left.length : Int) := ⟨Int.emod_nonneg _ (by omega), Int.emod_lt_of_pos _ (by omega)⟩
    rw [gd_pos ⟨⟨by omega, by omega⟩, by omega, hm.1, hm.2, small_le (by omega)⟩]
    generalize drawnI more (left.length : Int) % (left.length : Int) = j at hm
    obtain ⟨i, rfl⟩ := Int.eq_ofNat_of_zero_le hm.1
    have hi : i < left.length := by omega
    have e0 : ((i : Nat) : Int).toNat = i := by omega
    show ∃ s', lt2 (List.eraseIdx left ((i : Nat) : Int).toNat, List.getD left ((i : Nat) : Int).toNat default) _ = _ ∧ _
    rw [e0, List.getD_eq_getElem?_getD, List.getElem?_eq_getElem hi]
    show ∃ s', gd ((kget pts left[i]).isSome = true) _ = _ ∧ _
    have hin : left[i] ∈ left := List.getElem_mem hi
    have nd' : (left.eraseIdx i).Nodup := F.nd.sublist (List.eraseIdx_sublist left i)
    obtain ⟨m', e, F'⟩ := F.step pn few hin nd' fun x => by
      rw [List.mem_eraseIdx_iff_getElem]
      constructor
      · rintro ⟨j, hj, hne, rfl⟩
        exact ⟨List.getElem_mem _, fun z => hne ((List.getElem_inj F.nd).mp z)⟩
      · rintro ⟨hx, hxn⟩
        obtain ⟨j, hj, rfl⟩ := List.getElem_of_mem hx
        exact ⟨j, hj, fun z => hxn (by subst z; rfl), rfl⟩
    rw [gd_pos (kget_some (F.inn _ hin))]
    have e2 : F_Map_put m (eS left[i]) (eP eI eI ((kget pts left[i]).getD default)) = some (.nx m') := e
    show ∃ s', callM (F_Map_put m (eS left[i]) (eP eI eI ((kget pts left[i]).getD default))) _ = _ ∧ _
    rw [e2]
    refine ⟨_, rfl, ⟨F', ?_⟩, ?_⟩
    · show (left.eraseIdx i).length ≤ 60
      rw [List.length_eraseIdx_of_lt hi]
      omega
    · show (left.eraseIdx i).length < left.length
      rw [List.length_eraseIdx_of_lt hi]
      omega
  · rintro ⟨m, left⟩ ⟨F, _⟩ hc
    dsimp only at F hc ⊢
    rw [deq_L eS_inj] at hc
    have hl : left = [] := by simpa using hc
    subst hl
    exact ⟨m, rfl, F.I, F.done pn⟩
end NM
/-! The trees of a map. -/
namespace NM
open PySem PySem.Spec PyProof.Rows L2
open PySem.W (DatumOrd)
variable [Tbs]
/-- what a heap falls into, and that -/
noncomputable def treeF (pts : Pts) : Nat → Str → Int → NM.D
  | 0 => fun _ _ => .non
  | n + 1 => fun h k =>
    if (fall pts (comp (nrG pts k) (names pts) h) h k.toNat).2.length = 1 then eR eS (comp (nrG pts k) (names pts) h)
    else eP eI (eR eA) ((fall pts (comp (nrG pts k) (names pts) h) h k.toNat).1, (fall pts (comp (nrG pts k) (names pts) h) h k.toNat).2.map fun g => treeF pts n g (fall pts (comp (nrG pts k) (names pts) h) h k.toNat).1)
/-- how it falls: not at all, or at the greatest less size -/
theorem fall_cases (pts : Pts) (ns : List Str) (h : Str) : ∀ n : Nat, (fall pts ns h n = (0, [h]) ∧ ∀ j : Nat, j < n → (rowsAt pts ns (j : Int)).length ≤ 1) ∨
    ∃ j : Nat, j < n ∧ fall pts ns h n = ((j : Int), rowsAt pts ns (j : Int)) ∧ 1 < (rowsAt pts ns (j : Int)).length ∧ ∀ i : Nat, j < i → i < n → (rowsAt pts ns (i : Int)).length ≤ 1
  | 0 => .inl ⟨rfl, fun j hj => absurd hj (Nat.not_lt_zero _)⟩
  | n + 1 => by
    by_cases q : 1 < (rowsAt pts ns (n : Int)).length
    · refine .inr ⟨n, Nat.lt_succ_self n, ?_, q, fun i a b => by omega⟩
      show (if 1 < (rowsAt pts ns (n : Int)).length then ((n : Int), rowsAt pts ns n) else fall pts ns h n) = _
      rw [if_pos q]
    · have e : fall pts ns h (n + 1) = fall pts ns h n := by
        show (if 1 < (rowsAt pts ns (n : Int)).length then ((n : Int), rowsAt pts ns n) else fall pts ns h n) = _
        rw [if_neg q]
      rw [e]
      rcases fall_cases pts ns h n with ⟨a, b⟩ | ⟨j, a, b, c, d⟩
      · refine .inl ⟨a, fun j hj => ?_⟩
        by_cases z : j = n
        · rw [z]; omega
        · exact b j (by omega)
      · refine .inr ⟨j, by omega, b, c, fun i hi hn => ?_⟩
        by_cases z : i = n
        · rw [z]; omega
        · exact d i hi (by omega)
theorem okd_tree {pts : Pts} (pn : Pn pts) : ∀ (n : Nat) (h : Str) (k : Int), Okd (2 * n) (treeF pts n h k)
  | 0, _, _ => trivial
  | n + 1, h, k => by
    have okS : ∀ x ∈ names pts, PyData.strOk x = true := fun x hx => strOk_of (pn.nm x (mem_sortO.mp hx))
    show Okd (2 * n + 1 + 1) (if _ then _ else _)
    split
    · exact okd_le (n := 1) (by omega) (okR fun x hx => okS x (mem_comp.mp hx).r)
    · exact okP (n := 2 * n + 1) trivial (okR fun x hx => by
        obtain ⟨g, _, rfl⟩ := List.mem_map.mp hx
        exact okd_tree pn n g _)
section
variable {m : PMap} {pts : Pts}
theorem rowsAt_len (pts : Pts) (ns : List Str) (j : Int) : (rowsAt pts ns j).length ≤ pts.length := by
  have l1 := List.length_filter_le (fun h => decide (h ∈ ns)) (heads (nrG pts j) (names pts))
  have l2 := List.length_filter_le (isHead (nrG pts j) (names pts)) (names pts)
  have l3 := names_len pts
  unfold rowsAt
  unfold heads at *
  omega
theorem tree_ok (I : MapI m) (E : Ext m.points pts) (pn : Pn pts) (few : pts.length ≤ 60) : ∀ (n : Nat) (h : Str) (k : Int), 0 ≤ k → k < 14 → k.toNat < n → h ∈ heads (nrG pts k) (names pts) → F_tree_of n m h k = some (.rt (treeF pts n h k))
  | 0, _, _, _, _, l, _ => absurd l (Nat.not_lt_zero _)
  | n + 1, h, k, k0, k1, kn, hh => by
    have hk : 0 ≤ k ∧ k < 14 := ⟨k0, k1⟩
    have eo := opened_ok I E pn hk hh
    have en := namesE I E hk hh
    have ih := tree_ok I E pn few n
    unfold treeF
    show gd (IsRt (F_Map_opened m (.str h) (.int k))) (lt2 (valO (F_Map_opened m (.str h) (.int k))) _) = _
    rw [gd_pos (isRt_of eo), valO_eq eo]
    rcases fall_cases pts (comp (nrG pts k) (names pts) h) h k.toNat with ⟨ef, _⟩ | ⟨j, hj, ef, h1, _⟩
    · rw [ef, lt2_def, if_pos (show ((0 : Int), [h]).2.length = 1 from rfl)]
      show nn (gd (IsRt (F_Map_names m (.str h) (.int k))) (some (.rt (eR eS (valO (F_Map_names m (.str h) (.int k))))))) = _
      rw [gd_pos (isRt_of en), valO_eq en]
      rfl
    · rw [ef, lt2_def, if_neg (by show ¬ (rowsAt pts _ (j : Int)).length = 1; omega), decide_eq_false (by omega)]
      show gd _ _ = _
      have ej : (j : Int).toNat = j := Int.toNat_natCast j
      have sub : ∀ g ∈ rowsAt pts (comp (nrG pts k) (names pts) h) (j : Int), F_tree_of n m g (j : Int) = some (.rt (treeF pts n g (j : Int))) := fun g hg => ih g (j : Int) (by omega) (by omega) (by omega) (mem_rowsAt.mp hg).1
      have rl := rowsAt_len pts (comp (nrG pts k) (names pts) h) (j : Int)
      rw [gd_pos ⟨small_le (by omega), fun g hg => isRt_of (sub g hg)⟩]
      have e2 : (rowsAt pts (comp (nrG pts k) (names pts) h) (j : Int)).map (fun g => valO (F_tree_of n m g (j : Int))) = (rowsAt pts (comp (nrG pts k) (names pts) h) (j : Int)).map fun g => treeF pts n g (j : Int) := List.map_congr_left fun g hg => valO_eq (sub g hg)
      rw [e2]
theorem trees_ok (I : MapI m) (E : Ext m.points pts) (pn : Pn pts) (few : pts.length ≤ 60) : F_trees m = some (.rt ((heads (nrG pts 13) (names pts)).map fun h => treeF pts 16 h 13)) := by
  have eh := heapsE I E (k := 13) (by decide)
  have sub : ∀ h ∈ heads (nrG pts 13) (names pts), F_tree_of 16 m h 13 = some (.rt (treeF pts 16 h 13)) := fun h hh => tree_ok I E pn few 16 h 13 (by decide) (by decide) (by decide) hh
  have l2 := List.length_filter_le (isHead (nrG pts 13) (names pts)) (names pts)
  have l3 := names_len pts
  unfold F_trees
  show gd (IsRt (F_Map_heaps m (.int 13)) ∧ (valO (F_Map_heaps m (.int 13))).length ≤ sizeLine ∧ ∀ h, h ∈ valO (F_Map_heaps m (.int 13)) → IsRt (F_tree_of 16 m h 13)) (some (.rt ((valO (F_Map_heaps m (.int 13))).map fun h => valO (F_tree_of 16 m h 13))) : Pg Unit (List NM.D)) = _
  rw [valO_eq eh, gd_pos ⟨isRt_of eh, small_le (by unfold heads; omega), fun h hh => isRt_of (sub h hh)⟩]
  congr 2
  exact List.map_congr_left fun h hh => valO_eq (sub h hh)
end
/-! ### the law's own trees: the marks of a heap alone -/
section
variable {pts : Pts} {k j : Int} {h : Str}
/-- the points of some marks -/
noncomputable def subP (pts : Pts) (ns : List Str) : Pts := ns.map fun n => (n, ptOf pts n)
theorem subP_keys (pts : Pts) (ns : List Str) : keysOf (subP pts ns) = ns := by
  show List.map _ (List.map _ _) = _
  rw [List.map_map]
  exact List.map_id _
theorem subP_get {ns : List Str} {n : Str} (hn : n ∈ ns) : kget (subP pts ns) n = some (ptOf pts n) := by
  show kget (ns.map fun n => (n, ptOf pts n)) n = _
  rw [kget_map, if_pos hn]
theorem subP_nr {ns : List Str} {a b : Str} (ha : a ∈ ns) (hb : b ∈ ns) : nrG (subP pts ns) j a b = nrG pts j a b := by
  unfold nrG ptOf
  rw [subP_get ha, subP_get hb]
  rfl
theorem subP_pn {ns : List Str} (pn : Pn pts) (nd : ns.Nodup) (h : ∀ n ∈ ns, n ∈ keysOf pts) : Pn (subP pts ns) where
  nd := by rw [subP_keys]; exact nd
  nm := fun n hn => by rw [subP_keys] at hn; exact pn.nm n (h n hn)
  pt := fun p hp => by
    obtain ⟨n, hn, rfl⟩ := List.mem_map.mp hp
    exact pt_mem pn (h n hn)
theorem subP_names {ns : List Str} (up : Up ns) : names (subP pts ns) = ns := by
  unfold names
  rw [subP_keys]
  exact sortO_id (lt_pw up)
/-- within a heap nothing leads out -/
theorem cn_in (hj : 0 ≤ j) (jk : j ≤ k) (hk : k < 14) {a b : Str} (ha : a ∈ comp (nrG pts k) (names pts) h) : Cn (nrG pts j) (comp (nrG pts k) (names pts) h) a b ↔ Cn (nrG pts j) (names pts) a b := by
  constructor
  · exact fun c => c.sub fun x hx => (mem_comp.mp hx).r
  · intro c
    induction c with
    | refl a _ => exact .refl a ha
    | step _ hx n ih =>
      have c := ih ha
      exact .step c (mem_comp.mpr (.step (mem_comp.mp c.r) hx (nrG_mono hj jk hk _ _ n))) n
theorem cn_sub (hj : 0 ≤ j) (jk : j ≤ k) (hk : k < 14) {a b : Str} (ha : a ∈ comp (nrG pts k) (names pts) h) : Cn (nrG (subP pts (comp (nrG pts k) (names pts) h)) j) (comp (nrG pts k) (names pts) h) a b ↔ Cn (nrG pts j) (names pts) a b :=
  (cn_same (fun x y hx hy => subP_nr hx hy) a b).trans (cn_in hj jk hk ha)
theorem heads_sub (pn : Pn pts) (hj : 0 ≤ j) (jk : j ≤ k) (hk : k < 14) : heads (nrG (subP pts (comp (nrG pts k) (names pts) h)) j) (comp (nrG pts k) (names pts) h) = rowsAt pts (comp (nrG pts k) (names pts) h) j := by
  have up : Up (names pts) := sortO_lt pn.nd
  refine up_ext (heads_up (comp_up up h)) (rowsAt_up pts pn _ j) fun x => ?_
  rw [mem_heads, mem_rowsAt, mem_heads, head_iff, head_iff]
  constructor
  · rintro ⟨a, b⟩
    exact ⟨⟨(mem_comp.mp a).r, fun n c => b n ((cn_sub hj jk hk a).mpr c)⟩, a⟩
  · rintro ⟨⟨a, b⟩, c⟩
    exact ⟨c, fun n d => b n ((cn_sub hj jk hk c).mp d)⟩
theorem comp_sub (pn : Pn pts) (hj : 0 ≤ j) (jk : j ≤ k) (hk : k < 14) {g : Str} (hg : g ∈ comp (nrG pts k) (names pts) h) : comp (nrG (subP pts (comp (nrG pts k) (names pts) h)) j) (comp (nrG pts k) (names pts) h) g = comp (nrG pts j) (names pts) g := by
  have up : Up (names pts) := sortO_lt pn.nd
  refine up_ext (comp_up (comp_up up h) g) (comp_up up g) fun x => ?_
  rw [mem_comp, mem_comp]
  exact cn_sub hj jk hk hg
theorem law_tree (pn : Pn pts) (few : pts.length ≤ 60) : ∀ (n : Nat) (h : Str) (k : Int), 0 ≤ k → k < 14 → k.toNat < n → h ∈ heads (nrG pts k) (names pts) → F__law_tree n pts (comp (nrG pts k) (names pts) h) k = some (.rt (treeF pts n h k))
  | 0, _, _, _, _, l, _ => absurd l (Nat.not_lt_zero _)
  | n + 1, h, k, k0, k1, kn, hh => by
    have hk : 0 ≤ k ∧ k < 14 := ⟨k0, k1⟩
    have ih := law_tree pn few n
    have up : Up (names pts) := sortO_lt pn.nd
    have upC : Up (comp (nrG pts k) (names pts) h) := comp_up up h
    have inP : ∀ x, x ∈ comp (nrG pts k) (names pts) h → x ∈ keysOf pts := fun x hx => mem_sortO.mp (mem_comp.mp hx).r
    have lenC : (comp (nrG pts k) (names pts) h).length ≤ 60 := by
      have := nodup_len upC.nodup up.nodup fun x hx => (mem_comp.mp hx).r
      have := names_len pts
      omega
    have eks : kmerge ((comp (nrG pts k) (names pts) h).map fun x => (x, (kget pts x).getD default)) = subP pts (comp (nrG pts k) (names pts) h) := kmerge_nodup (by
      show (List.map _ (List.map _ _)).Nodup
      rw [List.map_map]
      exact (List.map_id _).symm ▸ upC.nodup)
    have ps := subP_pn pn upC.nodup inP
    have rows : ∀ j : Int, 0 ≤ j → j < k → F__law_heaps (subP pts (comp (nrG pts k) (names pts) h)) j = some (.rt ((rowsAt pts (comp (nrG pts k) (names pts) h) j).map fun g => (g, comp (nrG pts j) (names pts) g))) := fun j j0 jk => by
      have z := law_heaps (pts := subP pts (comp (nrG pts k) (names pts) h)) (k := j) (ps.pk (by show (List.map _ _).length < 64; rw [List.length_map]; omega)) ⟨j0, by omega⟩
      rw [subP_names upC, heads_sub pn j0 (by omega) k1] at z
      rw [z]
      congr 2
      exact List.map_congr_left fun g hg => by rw [comp_sub pn j0 (by omega) k1 (mem_rowsAt.mp hg).2]
    unfold treeF
    show gd (RgC (k - 1) (-1) (-1) k.toNat) _ = _
    rw [gd_pos (rgc_down hk)]
    generalize ens : comp (nrG pts k) (names pts) h = ns at *
    refine for_RB (fun o => o = some (.rt (if (fall pts ns h k.toNat).2.length = 1 then eR eS ns else eP eI (eR eA) ((fall pts ns h k.toNat).1, (fall pts ns h k.toNat).2.map fun g => treeF pts n g (fall pts ns h k.toNat).1))))
      (fun pre _ => ∀ j : Nat, k - pre.length ≤ j → (j : Int) < k → (rowsAt pts ns (j : Int)).length ≤ 1) (fun j a b => by simp at a; omega) ?_ ?_
    · rintro pre low post _ ex hj
      obtain ⟨el, hl⟩ := irange3_pos ex
      have elow : low = k - 1 - pre.length := by omega
      have hlow : 0 ≤ low ∧ low < k := by omega
      have er := rows low hlow.1 hlow.2
      rw [gd_pos ⟨small_le (by omega), fun x hx => kget_some (inP x hx)⟩, lt_def, eks, gd_pos (isRt_of er), lt_def, valO_eq er, List.length_map]
      by_cases q : 1 < (rowsAt pts ns low).length
      · right; right
        have e2 : ((low.toNat : Nat) : Int) = low := by omega
        have ef : fall pts ns h k.toNat = (low, rowsAt pts ns low) := by
          have e1 := fall_skip (pts := pts) (ns := ns) (h := h) (i := low.toNat + 1) (n := k.toNat) (by omega) fun j a b => hj j (by omega) (by omega)
          rw [e1]
          show (if 1 < (rowsAt pts ns ((low.toNat : Nat) : Int)).length then (((low.toNat : Nat) : Int), rowsAt pts ns (low.toNat : Nat)) else _) = _
          rw [e2, if_pos q]
        have ksr : sortO (keysOf ((rowsAt pts ns low).map fun g => (g, comp (nrG pts low) (names pts) g))) = rowsAt pts ns low := by
          have : keysOf ((rowsAt pts ns low).map fun g => (g, comp (nrG pts low) (names pts) g)) = rowsAt pts ns low := by
            show List.map _ (List.map _ _) = _
            rw [List.map_map]
            exact List.map_id _
          rw [this]
          exact sortO_id (lt_pw (rowsAt_up pts pn ns low))
        have gt : ∀ g ∈ rowsAt pts ns low, kget ((rowsAt pts ns low).map fun g => (g, comp (nrG pts low) (names pts) g)) g = some (comp (nrG pts low) (names pts) g) := fun g hg => by rw [kget_map, if_pos hg]
        have sub : ∀ g ∈ rowsAt pts ns low, F__law_tree n pts (comp (nrG pts low) (names pts) g) low = some (.rt (treeF pts n g low)) := fun g hg => ih g low hlow.1 (by omega) (by omega) (mem_rowsAt.mp hg).1
        have rl := rowsAt_len pts ns low
        rw [decide_eq_true (by omega), ef, if_neg (by show ¬ (rowsAt pts ns low).length = 1; omega)]
        refine ⟨_, ?_, rfl⟩
        show nn (gd _ _) = _
        rw [ksr, gd_pos ⟨by omega, small_le (by omega), fun g hg => by rw [gt g hg]; exact ⟨rfl, isRt_of (sub g hg)⟩⟩]
        have e2 : (rowsAt pts ns low).map (fun g => valO (F__law_tree n pts ((kget ((rowsAt pts ns low).map fun g => (g, comp (nrG pts low) (names pts) g)) g).getD default) low)) = (rowsAt pts ns low).map fun g => treeF pts n g low := List.map_congr_left fun g hg => by
          rw [gt g hg]
          exact valO_eq (sub g hg)
        rw [e2]
        rfl
      · left
        rw [decide_eq_false (by omega)]
        refine ⟨(), rfl, fun j a b => ?_⟩
        rw [List.length_append, List.length_singleton] at a
        by_cases z : (j : Int) = low
        · rw [z]; omega
        · exact hj j (by omega) b
    · rintro _ hj
      rw [irange3_length] at hj
      have ef : fall pts ns h k.toNat = (0, [h]) := by
        rw [fall_skip (i := 0) (by omega) fun j a b => hj j (by omega) (by omega)]
        rfl
      rw [ef, if_pos (show ((0 : Int), [h]).2.length = 1 from rfl)]
end
end NM
/-! The ends of a tree; the widest two. -/
namespace NM
open PySem PySem.Spec PyProof.Rows L2
open PySem.W (DatumOrd T3)
variable [Tbs]
theorem eRA (ds : List NM.D) : eR eA ds = .tup ds := by
  show NM.D.tup (ds.map eA) = _
  rw [List.map_id']
theorem isT (ds : List NM.D) : IsE (eR eA) (.tup ds) := ⟨ds, eRA ds⟩
theorem unT (ds : List NM.D) : unE (eR eA) (.tup ds) = ds := by
  have e := unE_enc (f := eR eA) (fun a b h => eR_inj (fun _ _ h => h) h) ds
  rw [eRA] at e
  exact e
theorem forO_map {α β σ ρ : Type} (f : α → β) (step : β → σ → Pg σ ρ) : ∀ (xs : List α) (s : σ), forO step (xs.map f) s = forO (fun x => step (f x)) xs s
  | [], _ => rfl
  | x :: xs, s => by
    rw [List.map_cons]
    unfold forO
    cases step (f x) s with
    | none => rfl
    | some o =>
      cases o with
      | nx s' => exact forO_map f step xs s'
      | ct s' => exact forO_map f step xs s'
      | _ => rfl
section
variable {pts : Pts} {j : Int}
theorem ends_loop {ρ : Type} {n : Nat} {rows : List Str} (pn : Pn pts) (few : pts.length ≤ 60) (hr : ∀ g ∈ rows, g ∈ heads (nrG pts j) (names pts)) (rnd : rows.Nodup)
    (sub : ∀ g ∈ rows, IsE (eR eA) (treeF pts n g j) ∧ ∃ l, F__law_ends n (unE (eR eA) (treeF pts n g j)) = some (.rt l) ∧ l.Perm (comp (nrG pts j) (names pts) g)) :
    ∃ found : List Str, (forO (fun (part : NM.D) => fun (found : (List Str)) => 
  gd ((IsE (eR eA) part) ∧ (IsRt (F__law_ends n (unE (eR eA) part))) ∧ ((found).length + ((valO (F__law_ends n (unE (eR eA) part)))).length ≤ sizeLine)) <|
  lt (found ++ (valO (F__law_ends n (unE (eR eA) part)))) fun found =>
  some (.nx found)) (rows.map fun g => treeF pts n g j) [] : Pg (List Str) ρ) = some (.nx found) ∧ found.Nodup ∧ ∀ x, x ∈ found ↔ ∃ g ∈ rows, Cn (nrG pts j) (names pts) g x := by
  have up : Up (names pts) := sortO_lt pn.nd
  have lenS := names_len pts
  rw [forO_map]
  refine forO_inv (fun pre (found : List Str) => found.Nodup ∧ ∀ x, x ∈ found ↔ ∃ g ∈ pre, Cn (nrG pts j) (names pts) g x) ⟨List.nodup_nil, fun x => ⟨fun z => (nomatch z), fun ⟨g, hg, _⟩ => (nomatch hg)⟩⟩ ?_
  rintro pre g post found ex ⟨nd, mf⟩
  have hg : g ∈ rows := by rw [ex]; simp
  have hgh := hr g hg
  obtain ⟨it, l, e, pl⟩ := sub g hg
  have lS : ∀ x ∈ l, Cn (nrG pts j) (names pts) g x := fun x hx => mem_comp.mp (pl.mem_iff.mp hx)
  have fS : ∀ x ∈ found, x ∈ names pts := fun x hx => by
    obtain ⟨g', _, c⟩ := (mf x).mp hx
    exact c.r
  have ndl : l.Nodup := pl.nodup_iff.mpr (comp_up up g).nodup
  have ll := nodup_len ndl up.nodup fun x hx => (lS x hx).r
  have lf := nodup_len nd up.nodup fS
  rw [valO_eq e, gd_pos ⟨it, isRt_of e, small_le (by omega)⟩]
  refine ⟨found ++ l, rfl, ?_, fun x => ?_⟩
  · rw [List.nodup_append]
    refine ⟨nd, ndl, fun x hx y hy z => ?_⟩
    subst z
    obtain ⟨g', hg', c⟩ := (mf x).mp hx
    have hgh' := hr g' (by rw [ex]; exact List.mem_append_left _ hg')
    have := head_uniq (nrG_sym pts j) (mem_heads.mp hgh').2 (mem_heads.mp hgh).2 (c.trans ((lS x hy).symm (nrG_sym pts j)))
    exact (nodup_split rnd ex).1 (by rw [← this]; exact hg')
  · rw [List.mem_append, mf]
    constructor
    · rintro (⟨g', a, c⟩ | hx)
      · exact ⟨g', List.mem_append_left _ a, c⟩
      · exact ⟨g, by simp, lS x hx⟩
    · rintro ⟨g', a, c⟩
      rcases List.mem_append.mp a with a | a
      · exact .inl ⟨g', a, c⟩
      · rw [List.mem_singleton.mp a] at c
        exact .inr (pl.mem_iff.mpr (mem_comp.mpr c))
theorem atI0 {α : Type} (x : α) (xs : List α) (d : α) : (L2.atI (x :: xs) 0).getD d = x := by rw [atI_zero]; rfl
theorem okD_nilR : OkD (eR eA ([] : List NM.D)) := ⟨1, by decide, okR fun x hx => nomatch hx⟩
theorem ends_ok (pn : Pn pts) (few : pts.length ≤ 60) : ∀ (n : Nat) (h : Str) (k : Int), n ≤ 16 → 0 ≤ k → k < 14 → k.toNat < n → h ∈ heads (nrG pts k) (names pts) →
    IsE (eR eA) (treeF pts n h k) ∧ ∃ l, F__law_ends n (unE (eR eA) (treeF pts n h k)) = some (.rt l) ∧ l.Perm (comp (nrG pts k) (names pts) h)
  | 0, _, _, _, _, _, l, _ => absurd l (Nat.not_lt_zero _)
  | n + 1, h, k, n16, k0, k1, kn, hh => by
    have hk : 0 ≤ k ∧ k < 14 := ⟨k0, k1⟩
    have up : Up (names pts) := sortO_lt pn.nd
    have ot := okd_tree pn (n + 1) h k
    have ih := ends_ok pn few n
    have rs := fun low hl => rows_split (pts := pts) (k := k) (low := low) (h := h) pn hl
    obtain ⟨r, ec⟩ := comp_cons up (mem_heads.mp hh).2 (mem_heads.mp hh).1
    rcases fall_cases pts (comp (nrG pts k) (names pts) h) h k.toNat with ⟨ef, _⟩ | ⟨j, hj, ef, h1, _⟩
    · have et : treeF pts (n + 1) h k = .tup ((comp (nrG pts k) (names pts) h).map eS) := by
        unfold treeF
        rw [ef, if_pos (show ((0 : Int), [h]).2.length = 1 from rfl)]
      rw [et] at ot ⊢
      refine ⟨isT _, comp (nrG pts k) (names pts) h, ?_, List.Perm.refl _⟩
      rw [unT, F__law_ends.eq_2]
      dsimp only
      have o : OkD (eR eA ((comp (nrG pts k) (names pts) h).map eS)) := by rw [eRA]; exact ⟨_, by omega, ot⟩
      have dn : deq (eR eA ((comp (nrG pts k) (names pts) h).map eS)) (eR eA []) = false := deq_ne (by
        rw [ec, eRA, eRA]
        intro z
        injection z with z
        cases z)
      have e0 : L2.atI ((comp (nrG pts k) (names pts) h).map eS) 0 = some (eS h) := by rw [ec, List.map_cons, atI_zero]
      rw [dn, e0, gd_pos ⟨o, okD_nilR, fun _ => rfl⟩]
      show gd (∀ x ∈ _, IsE eS x) _ = _
      rw [gd_pos fun x hx => by
        obtain ⟨a, _, rfl⟩ := List.mem_map.mp hx
        exact isE_enc a, List.map_map]
      congr 2
      refine (List.map_congr_left fun a _ => ?_).trans (List.map_id _)
      exact unE_enc eS_inj a
    · have et : treeF pts (n + 1) h k = .tup [.int (j : Int), .tup ((rowsAt pts (comp (nrG pts k) (names pts) h) (j : Int)).map fun g => treeF pts n g (j : Int))] := by
        have e2 : treeF pts (n + 1) h k = if (fall pts (comp (nrG pts k) (names pts) h) h k.toNat).2.length = 1 then eR eS (comp (nrG pts k) (names pts) h)
          else eP eI (eR eA) ((fall pts (comp (nrG pts k) (names pts) h) h k.toNat).1, (fall pts (comp (nrG pts k) (names pts) h) h k.toNat).2.map fun g => treeF pts n g (fall pts (comp (nrG pts k) (names pts) h) h k.toNat).1) := rfl
        rw [e2, ef, if_neg (by show ¬ (rowsAt pts _ (j : Int)).length = 1; omega)]
        show NM.D.tup [.int (j : Int), eR eA _] = _
        rw [eRA]
      rw [et] at ot ⊢
      refine ⟨isT _, ?_⟩
      rw [unT, F__law_ends.eq_2]
      dsimp only
      obtain ⟨found, e, nd, mf⟩ := ends_loop (ρ := List Str) (n := n) (j := (j : Int)) (rows := rowsAt pts (comp (nrG pts k) (names pts) h) (j : Int)) pn few (fun g hg => (mem_rowsAt.mp hg).1) (rowsAt_up pts pn _ _).nodup
        fun g hg => ih g (j : Int) (by omega) (by omega) (by omega) (by omega) (mem_rowsAt.mp hg).1
      refine ⟨found, ?_, (List.perm_ext_iff_of_nodup nd (comp_up up h).nodup).mpr fun x => (mf x).trans (rs (j : Int) (by omega) x)⟩
      generalize ech : (rowsAt pts (comp (nrG pts k) (names pts) h) (j : Int)).map (fun g => treeF pts n g (j : Int)) = ch at *
      have o : OkD (eR eA [.int (j : Int), .tup ch]) := by rw [eRA]; exact ⟨_, by omega, ot⟩
      have dn : deq (eR eA [.int (j : Int), .tup ch]) (eR eA []) = false := deq_ne (by
        rw [eRA, eRA]
        intro z
        injection z with z
        cases z)
      have e1 : L2.atI [NM.D.int (j : Int), .tup ch] 1 = some (.tup ch) := rfl
      rw [dn, atI_zero, gd_pos ⟨o, okD_nilR, fun _ => rfl⟩, e1]
      show nn (lt ([] : List Str) fun found => gd ((some (NM.D.tup ch)).isSome = true ∧ IsE (eR eA) (.tup ch)) (bindO (forO _ (unE (eR eA) (.tup ch)) found) _)) = _
      rw [lt_def, gd_pos ⟨rfl, isT ch⟩, unT, e]
      rfl
end
/-! ### the widest two -/
section
variable {d : Str → Str → Int} {s0 : Str × Str × Int}
def stepW (d : Str → Str → Int) (best : Str × Str × Int) (p : Str × Str) : Str × Str × Int := if best.2.2 < d p.1 p.2 then (p.1, p.2, d p.1 p.2) else best
def BestW (d : Str → Str → Int) (s0 : Str × Str × Int) (Q : List (Str × Str)) (best : Str × Str × Int) : Prop :=
  (best = s0 ∧ ∀ q ∈ Q, d q.1 q.2 ≤ s0.2.2) ∨ ∃ pre p post, Q = pre ++ p :: post ∧ best = (p.1, p.2, d p.1 p.2) ∧ s0.2.2 < d p.1 p.2 ∧ (∀ q ∈ pre, d q.1 q.2 < d p.1 p.2) ∧ ∀ q ∈ post, d q.1 q.2 ≤ d p.1 p.2
theorem best_fold : ∀ (post pre : List (Str × Str)) (best : Str × Str × Int), BestW d s0 pre best → BestW d s0 (pre ++ post) (post.foldl (stepW d) best)
  | [], pre, best, h => by rw [List.append_nil]; exact h
  | q :: post, pre, best, h => by
    rw [List.foldl_cons, show pre ++ q :: post = (pre ++ [q]) ++ post by simp]
    refine best_fold post _ _ ?_
    unfold stepW
    rcases h with ⟨rfl, h⟩ | ⟨a, p, b, rfl, rfl, h0, h1, h2⟩
    · by_cases z : best.2.2 < d q.1 q.2
      · rw [if_pos z]
        exact .inr ⟨pre, q, [], rfl, rfl, z, fun x hx => Int.lt_of_le_of_lt (h x hx) z, fun x hx => nomatch hx⟩
      · rw [if_neg z]
        refine .inl ⟨rfl, fun x hx => ?_⟩
        rcases List.mem_append.mp hx with hx | hx
        · exact h x hx
        · rw [List.mem_singleton.mp hx]; omega
    · by_cases z : d p.1 p.2 < d q.1 q.2
      · rw [if_pos z]
        refine .inr ⟨a ++ p :: b, q, [], rfl, rfl, by omega, fun x hx => ?_, fun x hx => nomatch hx⟩
        rcases List.mem_append.mp hx with hx | hx
        · have := h1 x hx; omega
        · rcases List.mem_cons.mp hx with rfl | hx
          · exact z
          · have := h2 x hx; omega
      · rw [if_neg z]
        refine .inr ⟨a, p, b ++ [q], by simp, rfl, h0, h1, fun x hx => ?_⟩
        rcases List.mem_append.mp hx with hx | hx
        · exact h2 x hx
        · rw [List.mem_singleton.mp hx]; omega
end
instance : TotO (T3 Int Str Str) where
  irr a := TotO.irr (α := Int × Str × Str) (a.a, a.b, a.c)
  tr a b c := TotO.tr (α := Int × Str × Str) (a.a, a.b, a.c) (b.a, b.b, b.c) (c.a, c.b, c.c)
  tot a b := by
    rcases TotO.tot (α := Int × Str × Str) (a.a, a.b, a.c) (b.a, b.b, b.c) with e | e | e
    · injection e with e1 e
      injection e with e2 e3
      exact .inl (T3.same e1 e2 e3)
    · exact .inr (.inl e)
    · exact .inr (.inr e)
/-- the least of them stands first -/
theorem sortedT3_head {xs : List (Int × Str × Str)} {m : Int × Str × Str} (hm : m ∈ xs) (h : ∀ z ∈ xs, z ≠ m → DatumOrd.lt (toT3 m) (toT3 z) = true) : L2.atI (sortedT3 xs) 0 = some m := by
  have hp := sortO_perm (xs.map toT3)
  have hw := sortO_pw (xs.map toT3)
  unfold sortedT3
  cases e : sortO (xs.map toT3) with
  | nil =>
    rw [e] at hp
    have := hp.mem_iff.mpr (List.mem_map.mpr ⟨m, hm, rfl⟩)
    cases this
  | cons y ys =>
    rw [e] at hp hw
    rw [List.map_cons, atI_zero]
    congr 1
    obtain ⟨z, hz, ez⟩ := List.mem_map.mp (hp.mem_iff.mp List.mem_cons_self)
    subst ez
    by_cases q : z = m
    · rw [q]; rfl
    · have l := h z hz q
      have hm2 := hp.mem_iff.mpr (List.mem_map.mpr ⟨m, hm, rfl⟩)
      rcases List.mem_cons.mp hm2 with w | w
      · rw [w, TotO.irr] at l
        cases l
      · have w2 := (List.pairwise_cons.mp hw).1 _ w
        rcases leO_iff.mp w2 with w3 | w3
        · rw [w3, TotO.irr] at l
          cases l
        · rw [TotO.asym l] at w3
          cases w3
theorem sortedT3_some {xs : List (Int × Str × Str)} (h : xs ≠ []) : ∃ m, L2.atI (sortedT3 xs) 0 = some m ∧ m ∈ xs := by
  have hp := sortO_perm (xs.map toT3)
  unfold sortedT3
  cases e : sortO (xs.map toT3) with
  | nil =>
    rw [e] at hp
    have := hp.symm.eq_nil
    exact absurd (List.map_eq_nil_iff.mp this) h
  | cons y ys =>
    rw [e] at hp
    obtain ⟨z, hz, ez⟩ := List.mem_map.mp (hp.mem_iff.mp List.mem_cons_self)
    subst ez
    exact ⟨z, by rw [List.map_cons, atI_zero]; rfl, hz⟩
theorem cutD_from {α : Type} (xs : List α) (i : Nat) : cutD xs (some (i : Int)) none = xs.drop i := by
  unfold cutD
  rw [HT.sIx_nat, HT.sIx_none]
  by_cases h : i ≤ xs.length
  · rw [Nat.min_eq_left h, List.take_of_length_le (by rw [List.length_drop]; exact Nat.le_refl _)]
  · rw [Nat.min_eq_right (by omega), List.drop_eq_nil_of_le (Nat.le_refl _), List.drop_eq_nil_of_le (by omega), List.take_nil]
/-- the pairs of a list, in order -/
def pairsW (ns : List Str) (pre : List (Int × Str)) : List (Str × Str) := pre.flatMap fun p => (cutD ns (some (p.1 + 1)) none).map fun b => (p.2, b)
def lexS (p q : Str × Str) : Prop := DatumOrd.lt p.1 q.1 = true ∨ (p.1 = q.1 ∧ DatumOrd.lt p.2 q.2 = true)
theorem mem_enumL {α : Type} {xs : List α} {p : Int × α} (h : p ∈ enumL xs) : ∃ i : Nat, p.1 = i ∧ xs[i]? = some p.2 := by
  obtain ⟨i, hi⟩ := List.mem_iff_getElem?.mp h
  rw [enumL_get] at hi
  obtain ⟨a, ha, rfl⟩ := Option.map_eq_some_iff.mp hi
  exact ⟨i, rfl, ha⟩
theorem mem_pairsW {ns : List Str} {pre : List (Int × Str)} (hp : ∀ p ∈ pre, p ∈ enumL ns) {q : Str × Str} (h : q ∈ pairsW ns pre) : q.1 ∈ ns ∧ q.2 ∈ ns := by
  obtain ⟨p, h1, h2⟩ := List.mem_flatMap.mp h
  obtain ⟨b, hb, rfl⟩ := List.mem_map.mp h2
  obtain ⟨i, e1, e2⟩ := mem_enumL (hp p h1)
  refine ⟨List.mem_of_getElem? e2, ?_⟩
  rw [e1, show ((i : Nat) : Int) + 1 = ((i + 1 : Nat) : Int) from rfl, cutD_from] at hb
  exact List.mem_of_mem_drop hb
theorem pairsW_asc {ns : List Str} (up : Up ns) : (pairsW ns (enumL ns)).Pairwise lexS := by
  unfold pairsW
  rw [List.pairwise_flatMap]
  constructor
  · intro p hp
    obtain ⟨i, e1, e2⟩ := mem_enumL hp
    rw [e1, show ((i : Nat) : Int) + 1 = ((i + 1 : Nat) : Int) from rfl, cutD_from, List.pairwise_map]
    exact (List.Pairwise.sublist (List.drop_sublist _ _) up).imp fun {a b} l => .inr ⟨rfl, l⟩
  · have pw : (enumL ns).Pairwise fun p q => DatumOrd.lt p.2 q.2 = true := by
      rw [List.pairwise_iff_getElem]
      intro i j hi hj hij
      rw [enumL_length] at hi hj
      have g := fun (n : Nat) (hn : n < ns.length) => enumL_get ns n
      have gi : (enumL ns)[i]? = some ((i : Int), ns[i]) := by rw [enumL_get, List.getElem?_eq_getElem hi]; rfl
      have gj : (enumL ns)[j]? = some ((j : Int), ns[j]) := by rw [enumL_get, List.getElem?_eq_getElem hj]; rfl
      rw [(List.getElem?_eq_some_iff.mp gi).2, (List.getElem?_eq_some_iff.mp gj).2]
      exact List.pairwise_iff_getElem.mp up i j hi hj hij
    refine pw.imp fun {p q} l x hx y hy => ?_
    obtain ⟨a, _, rfl⟩ := List.mem_map.mp hx
    obtain ⟨b, _, rfl⟩ := List.mem_map.mp hy
    exact .inl l
end NM
/-! The law of trees, whole. -/
namespace NM
open PySem PySem.Spec PyProof.Rows L2
open PySem.W (DatumOrd T3)
variable [Tbs]
theorem okd3 {α β γ : Type} {f : α → NM.D} {g : β → NM.D} {k : γ → NM.D} {n : Nat} {p : α × β × γ} (h1 : Okd n (f p.1)) (h2 : Okd n (g p.2.1)) (h3 : Okd n (k p.2.2)) : Okd (n + 1) (e3 f g k p) := fun d hd => by
  simp only [List.mem_cons, List.not_mem_nil, or_false] at hd
  rcases hd with rfl | rfl | rfl
  · exact h1
  · exact h2
  · exact h3
/-- how far two marks are -/
def dst (pts : Pts) (a b : Str) : Int := chebP (ptOf pts a) (ptOf pts b)
theorem dst_nn (pts : Pts) (a b : Str) : 0 ≤ dst pts a b := by
  unfold dst chebP cheb iabs
  split <;> split <;> omega
def tripW (pts : Pts) (q : Str × Str) : Int × Str × Str := (0 - dst pts q.1 q.2, q.1, q.2)
noncomputable def widL (pts : Pts) (k : Int) (h : Str) : Str × Str × Int := (pairsW (comp (nrG pts k) (names pts) h) (enumL (comp (nrG pts k) (names pts) h))).foldl (stepW (dst pts)) (h, h, 0)
theorem pairsW_snoc (ns : List Str) (pre : List (Int × Str)) (p : Int × Str) : pairsW ns (pre ++ [p]) = pairsW ns pre ++ (cutD ns (some (p.1 + 1)) none).map fun b => (p.2, b) := by
  unfold pairsW
  rw [List.flatMap_append]
  simp
theorem cut_len {α : Type} {xs : List α} {p : Int × α} (h : p ∈ enumL xs) : (cutD xs (some (p.1 + 1)) none).length ≤ xs.length ∧ ∀ b ∈ cutD xs (some (p.1 + 1)) none, b ∈ xs := by
  obtain ⟨i, e1, _⟩ := mem_enumL h
  rw [e1, show ((i : Nat) : Int) + 1 = ((i + 1 : Nat) : Int) from rfl, cutD_from]
  exact ⟨by rw [List.length_drop]; omega, fun b hb => List.mem_of_mem_drop hb⟩
theorem pairsW_len {ns : List Str} : ∀ (pre : List (Int × Str)), (∀ p ∈ pre, p ∈ enumL ns) → (pairsW ns pre).length ≤ pre.length * ns.length
  | [], _ => Nat.zero_le _
  | p :: pre, h => by
    have ih := pairsW_len pre fun q hq => h q (List.mem_cons_of_mem _ hq)
    have c := (cut_len (h p List.mem_cons_self)).1
    have e : pairsW ns (p :: pre) = ((cutD ns (some (p.1 + 1)) none).map fun b => (p.2, b)) ++ pairsW ns pre := by
      unfold pairsW
      rw [List.flatMap_cons]
    rw [e, List.length_append, List.length_map, List.length_cons, Nat.add_mul, Nat.one_mul]
    omega
section
variable {m : PMap} {pts : Pts} {k : Int} {h : Str}
theorem pointE (I : MapI m) (E : Ext m.points pts) {n : Str} (hn : n ∈ keysOf m.points) : F_Map_point m (.str n) = some (.rt (ptOf pts n)) := by
  rw [point_ok (I.pn.nm n hn), if_pos hn, E.pt]
theorem widest_ok (I : MapI m) (E : Ext m.points pts) (pn : Pn pts) (hk : 0 ≤ k ∧ k < 14) (hh : h ∈ heads (nrG pts k) (names pts)) : F_widest m (.str h) (.int k) = some (.rt (widL pts k h)) := by
  have up : Up (names pts) := sortO_lt pn.nd
  have en := namesE I E hk hh
  obtain ⟨r, ec⟩ := comp_cons up (mem_heads.mp hh).2 (mem_heads.mp hh).1
  obtain ⟨_, _, c3⟩ := comp_facts I E hh
  unfold F_widest widL
  rw [valO_eq en, gd_pos (isRt_of en), lt_def]
  generalize comp (nrG pts k) (names pts) h = ns at *
  have e0 : L2.atI ns 0 = some h := by rw [ec, atI_zero]
  rw [e0, gd_pos ⟨rfl, rfl⟩, lt_def]
  refine for_then (fun pre b => b = (pairsW ns pre).foldl (stepW (dst pts)) (h, h, 0)) rfl ?_ (fun b e => by rw [e])
  rintro pre p post b ex rfl
  have hp : p ∈ enumL ns := by rw [ex]; simp
  obtain ⟨i, e1, e2⟩ := mem_enumL hp
  have hp2 := c3 p.2 (List.mem_of_getElem? e2)
  obtain ⟨_, cm⟩ := cut_len hp
  refine ⟨((cutD ns (some (p.1 + 1)) none).map fun o => (p.2, o)).foldl (stepW (dst pts)) ((pairsW ns pre).foldl (stepW (dst pts)) (h, h, 0)), ?_, by rw [pairsW_snoc, List.foldl_append]⟩
  generalize (pairsW ns pre).foldl (stepW (dst pts)) (h, h, 0) = b0
  refine for_then (fun pre2 b => b = (pre2.map fun o => (p.2, o)).foldl (stepW (dst pts)) b0) rfl ?_ ?_
  · rintro pre2 o post2 b ex2 rfl
    have ho : o ∈ cutD ns (some (p.1 + 1)) none := by rw [ex2]; simp
    have w1 : F_Map_point m (eS p.2) = some (.rt (ptOf pts p.2)) := pointE I E hp2
    have w2 : F_Map_point m (eS o) = some (.rt (ptOf pts o)) := pointE I E (c3 o (cm o ho))
    rw [gd_pos ⟨isRt_of w1, isRt_of w2⟩, lt_def, valO_eq w1, valO_eq w2]
    refine ⟨_, ?_, rfl⟩
    rw [List.map_append, List.foldl_append]
    generalize (pre2.map fun o => (p.2, o)).foldl (stepW (dst pts)) b0 = b
    show bindO (cond (decide (b.2.2 < dst pts p.2 o)) _ _) _ = some (.nx (stepW (dst pts) b (p.2, o)))
    unfold stepW
    by_cases z : b.2.2 < dst pts p.2 o
    · rw [decide_eq_true z, if_pos z]; rfl
    · rw [decide_eq_false z, if_neg z]; rfl
  · rintro b rfl
    rfl
end
/-- what is due, by all pairs -/
theorem due_wid {pts : Pts} {k : Int} {h : Str} (pn : Pn pts) (hh : h ∈ heads (nrG pts k) (names pts)) (Q : List (Str × Str)) (hQ : Q = pairsW (comp (nrG pts k) (names pts) h) (enumL (comp (nrG pts k) (names pts) h))) :
    (Q.map (tripW pts) = [] ∧ widL pts k h = (h, h, 0)) ∨ (Q.map (tripW pts) ≠ [] ∧ ∃ t, L2.atI (sortedT3 (Q.map (tripW pts))) 0 = some t ∧ ((¬ t.1 < 0 ∧ widL pts k h = (h, h, 0)) ∨ (t.1 < 0 ∧ widL pts k h = (t.2.1, t.2.2, 0 - t.1)))) := by
  have up : Up (names pts) := sortO_lt pn.nd
  have asc := pairsW_asc (comp_up (nr := nrG pts k) up h)
  rw [← hQ] at asc
  have bw := best_fold (d := dst pts) (s0 := (h, h, 0)) Q [] (h, h, 0) (.inl ⟨rfl, fun q hq => nomatch hq⟩)
  have ew : widL pts k h = Q.foldl (stepW (dst pts)) (h, h, 0) := by rw [hQ]; rfl
  rw [← ew, List.nil_append] at bw
  by_cases z : Q = []
  · refine .inl ⟨by rw [z]; rfl, ?_⟩
    rcases bw with ⟨a, _⟩ | ⟨a, p, b, e, _⟩
    · exact a
    · rw [z] at e
      have := congrArg List.length e
      simp at this
  · refine .inr ⟨fun e => z (List.map_eq_nil_iff.mp e), ?_⟩
    rcases bw with ⟨a, b⟩ | ⟨pre, p, post, e, ew2, h0, h1, h2⟩
    · obtain ⟨t, et, ht⟩ := sortedT3_some (xs := Q.map (tripW pts)) fun e => z (List.map_eq_nil_iff.mp e)
      obtain ⟨q, hq, rfl⟩ := List.mem_map.mp ht
      refine ⟨_, et, .inl ⟨?_, a⟩⟩
      have := b q hq
      show ¬ (0 - dst pts q.1 q.2 < 0)
      have : dst pts q.1 q.2 ≤ 0 := this
      omega
    · have h0 : 0 < dst pts p.1 p.2 := h0
      have lt3 : ∀ q : Str × Str, DatumOrd.lt (toT3 (tripW pts p)) (toT3 (tripW pts q)) = if 0 - dst pts p.1 p.2 = 0 - dst pts q.1 q.2 then (if p.1 = q.1 then DatumOrd.lt p.2 q.2 else DatumOrd.lt p.1 q.1) else decide (0 - dst pts p.1 p.2 < 0 - dst pts q.1 q.2) := fun q => rfl
      rw [e] at asc
      have asc2 := List.pairwise_append.mp asc
      have ap := List.pairwise_cons.mp asc2.2.1
      have hd := sortedT3_head (xs := Q.map (tripW pts)) (m := tripW pts p) (List.mem_map.mpr ⟨p, by rw [e]; simp, rfl⟩) fun w hw ne => by
        obtain ⟨q, hq, rfl⟩ := List.mem_map.mp hw
        rw [lt3]
        rw [e] at hq
        rcases List.mem_append.mp hq with hq | hq
        · have := h1 q hq
          rw [if_neg (by omega)]
          exact decide_eq_true (by omega)
        · rcases List.mem_cons.mp hq with rfl | hq
          · exact absurd rfl ne
          · have := h2 q hq
            by_cases y : 0 - dst pts p.1 p.2 = 0 - dst pts q.1 q.2
            · rw [if_pos y]
              rcases ap.1 q hq with l | ⟨l1, l2⟩
              · rw [if_neg (fun w => by rw [w, TotO.irr] at l; cases l)]
                exact l
              · rw [if_pos l1]
                exact l2
            · rw [if_neg y]
              exact decide_eq_true (by omega)
      refine ⟨_, hd, .inr ⟨by show 0 - dst pts p.1 p.2 < 0; omega, ?_⟩⟩
      rw [ew2]
      show (p.1, p.2, dst pts p.1 p.2) = (p.1, p.2, 0 - (0 - dst pts p.1 p.2))
      rw [show 0 - (0 - dst pts p.1 p.2) = dst pts p.1 p.2 by omega]
theorem tree_notNon (pts : Pts) (n : Nat) (h : Str) (k : Int) : isNon (treeF pts (n + 1) h k) = false := by
  show isNon (if _ then _ else _) = false
  split <;> rfl
theorem law_ok (script : List Int) (hl : script.length ≤ 63) : F_law script = some (.rt true) := by
  unfold F_law
  have hm : 1 ≤ max (1 : Int) (min 2 (script.length : Int)) ∧ max (1 : Int) (min 2 (script.length : Int)) ≤ 2 := by omega
  generalize max (1 : Int) (min 2 (script.length : Int)) = top at hm
  rw [gd_pos ⟨by omega, by omega⟩]
  refine for_then (fun _ _ => True) trivial (fun pre k post s ex _ => ⟨(), ?_, trivial⟩) fun _ _ => rfl
  have hk : 0 ≤ k ∧ k < top := mem_irange.mp (by rw [ex]; simp)
  rw [gd_pos ⟨⟨hl, by omega, by omega⟩, by omega, by omega⟩, lt_def]
  generalize drawnI (cellI script k) k = more
  obtain ⟨pts, ep, pn, lp, two⟩ := law_few (m := more) (many := 14) (by decide) (by decide)
  rw [gd_pos (isRt_of ep), lt_def, valO_eq ep]
  have lp : pts.length ≤ 14 := by omega
  have pk := pn.pk (by omega)
  have up : Up (names pts) := sortO_lt pk.nd
  have lenS := names_len pts
  have okS : ∀ n ∈ names pts, PyData.strOk n = true := fun n hn => strOk_of (pn.nm n (mem_sortO.mp hn))
  obtain ⟨m, em, I, E⟩ := law_map (more := more) pn (by omega)
  rw [gd_pos (isRt_of em), lt_def, valO_eq em]
  have e13 := law_heaps pk (k := 13) (by decide)
  have et := trees_ok I E pn (by omega)
  have lh : ∀ j : Int, (heads (nrG pts j) (names pts)).length ≤ 14 := fun j => by
    have := List.length_filter_le (isHead (nrG pts j) (names pts)) (names pts)
    unfold heads
    omega
  have ld : ∀ j : Int, (dueD (nrG pts j) (names pts)).length ≤ 14 := fun j => by
    show (List.map _ _).length ≤ 14
    rw [List.length_map]
    exact lh j
  have lt1 : ∀ h ∈ heads (nrG pts 13) (names pts), F__law_tree 16 pts ((kget (dueD (nrG pts 13) (names pts)) h).getD default) 13 = some (.rt (treeF pts 16 h 13)) := fun h hh => by
    rw [due_get hh]
    exact law_tree pn (by omega) 16 h 13 (by decide) (by decide) (by decide) hh
  have okT : OkD (eL eA ((heads (nrG pts 13) (names pts)).map fun h => treeF pts 16 h 13)) := ⟨33, by decide, okL fun d hd => by
    obtain ⟨h, _, rfl⟩ := List.mem_map.mp hd
    exact okd_tree pn 16 h 13⟩
  rw [gd_pos (isRt_of e13), lt_def, valO_eq e13, gd_pos (isRt_of et), lt_def, valO_eq et]
  have emap : (sortO (keysOf (dueD (nrG pts 13) (names pts)))).map (fun h => valO (F__law_tree 16 pts ((kget (dueD (nrG pts 13) (names pts)) h).getD default) 13)) = (heads (nrG pts 13) (names pts)).map fun h => treeF pts 16 h 13 := by
    rw [sortO_heads up]
    exact List.map_congr_left fun h hh => valO_eq (lt1 h hh)
  show gd ((dueD (nrG pts 13) (names pts)).length < 64 ∧ (sortO (keysOf (dueD (nrG pts 13) (names pts)))).length ≤ sizeLine ∧ (∀ h, h ∈ sortO (keysOf (dueD (nrG pts 13) (names pts))) → (kget (dueD (nrG pts 13) (names pts)) h).isSome = true ∧ IsRt (F__law_tree 16 pts ((kget (dueD (nrG pts 13) (names pts)) h).getD default) 13)) ∧ OkD (eL eA ((heads (nrG pts 13) (names pts)).map fun h => treeF pts 16 h 13)) ∧ OkD (eL eA ((sortO (keysOf (dueD (nrG pts 13) (names pts)))).map (fun h => valO (F__law_tree 16 pts ((kget (dueD (nrG pts 13) (names pts)) h).getD default) 13))))) (cond (!deq _ (eL eA ((sortO (keysOf (dueD (nrG pts 13) (names pts)))).map (fun h => valO (F__law_tree 16 pts ((kget (dueD (nrG pts 13) (names pts)) h).getD default) 13))))) _ _) = _
  rw [emap, gd_pos ⟨Nat.lt_of_le_of_lt (ld 13) (by decide), small_le (by rw [sortO_heads up]; have := lh 13; omega), fun h hh => by
    rw [sortO_heads up] at hh
    exact ⟨by rw [due_get hh]; rfl, isRt_of (lt1 h hh)⟩, okT, okT⟩, deq_self]
  rw [show (!true) = false from rfl, Bool.cond_false, lt_def]
  obtain ⟨flat, ef, nd, mf⟩ := ends_loop (ρ := Bool) (n := 16) (j := 13) (rows := heads (nrG pts 13) (names pts)) pn (by omega) (fun g hg => hg) (heads_up up).nodup fun g hg => ends_ok pn (by omega) 16 g 13 (by decide) (by decide) (by decide) (by decide) hg
  rw [ef, bind_nx]
  have pf : flat.Perm (names pts) := (List.perm_ext_iff_of_nodup nd up.nodup).mpr fun x => by
    rw [mf]
    constructor
    · rintro ⟨g, _, c⟩
      exact c.r
    · intro hx
      obtain ⟨g, a, b, c⟩ := has_head (nr := nrG pts 13) up (nrG_sym pts 13) hx
      exact ⟨g, mem_heads.mpr ⟨b, a⟩, c⟩
  have es : sortO flat = sortO (keysOf pts) := sortO_congr (pf.trans (sortO_perm _))
  rw [es, gd_pos ⟨fun x hx => okS x (pf.mem_iff.mp hx), by omega, okD_strs okS, okD_strs okS⟩, deq_self]
  show bindO (forO _ _ _) _ = _
  refine for_then (fun _ _ => True) trivial ?_ ?_
  · rintro p1 size q1 rows0 e1 -
    have hs : 0 ≤ size ∧ size < 14 := by
      have hmem : size ∈ ([13, more / 64 % 14, more / 1024 % 8] : List Int) := by rw [e1]; simp
      have a1 := Int.emod_nonneg (more / 64) (b := 14) (by decide)
      have a2 := Int.emod_lt_of_pos (more / 64) (b := 14) (by decide)
      have a3 := Int.emod_nonneg (more / 1024) (b := 8) (by decide)
      have a4 := Int.emod_lt_of_pos (more / 1024) (b := 8) (by decide)
      simp only [List.mem_cons, List.not_mem_nil, or_false] at hmem
      omega
    have elh := law_heaps pk hs
    rw [gd_pos (isRt_of elh), lt_def, valO_eq elh]
    refine ⟨dueD (nrG pts size) (names pts), ?_, trivial⟩
    show bindO (forO _ (keysOf (dueD (nrG pts size) (names pts))) ()) _ = some (.nx (dueD (nrG pts size) (names pts)))
    rw [due_keys]
    refine for_then (fun _ _ => True) trivial ?_ fun _ _ => rfl
    rintro p2 h q2 _ e2 -
    refine ⟨(), ?_, trivial⟩
    have hh : h ∈ heads (nrG pts size) (names pts) := by rw [e2]; simp
    have eg : kget (dueD (nrG pts size) (names pts)) h = some (comp (nrG pts size) (names pts) h) := due_get hh
    have ew := widest_ok I E pn hs hh
    have dw := due_wid pn hh _ rfl
    have upC : Up (comp (nrG pts size) (names pts) h) := comp_up up h
    have inC : ∀ x, x ∈ comp (nrG pts size) (names pts) h → x ∈ names pts := fun x hx => (mem_comp.mp hx).r
    have hin : h ∈ comp (nrG pts size) (names pts) h := mem_comp.mpr (.refl h (mem_heads.mp hh).1)
    have lc : (comp (nrG pts size) (names pts) h).length ≤ 14 := by
      have := nodup_len upC.nodup up.nodup inC
      omega
    rw [lt_def, eg, gd_pos Option.isSome_some, Option.getD_some]
    generalize comp (nrG pts size) (names pts) h = ns at *
    have qm := fun q hq => mem_pairsW (ns := ns) (pre := enumL ns) (fun p hp => hp) (q := q) hq
    refine for_then (fun pre s => s = (pairsW ns pre).map (tripW pts)) rfl ?_ ?_
    · rintro pre p post s ex rfl
      have hp : p ∈ enumL ns := by rw [ex]; simp
      obtain ⟨i, i1, i2⟩ := mem_enumL hp
      obtain ⟨c1, c2⟩ := cut_len hp
      have pl := pairsW_len (ns := ns) pre fun x hx => by rw [ex]; exact List.mem_append_left _ hx
      have le := congrArg List.length ex
      rw [enumL_length, List.length_append, List.length_cons] at le
      have pm : pre.length * ns.length ≤ 14 * 14 := Nat.mul_le_mul (by omega) lc
      have kp : ∀ x, x ∈ ns → (kget pts x).isSome = true := fun x hx => kget_some (mem_sortO.mp (inC x hx))
      rw [gd_pos ⟨Option.isSome_some, small_le (by omega), fun x hx => ⟨kp _ (List.mem_of_getElem? i2), kp x (c2 x hx)⟩, small_le (by rw [List.length_map, List.length_map]; omega)⟩, lt_def]
      refine ⟨_, rfl, ?_⟩
      rw [pairsW_snoc, List.map_append, List.map_map]
      rfl
    · rintro s rfl
      generalize pairsW ns (enumL ns) = Q at *
      have ok1 : ∀ x ∈ Q.map (tripW pts), OkD (e3 eI eS eS x) := fun x hx => by
        obtain ⟨q, hq, rfl⟩ := List.mem_map.mp hx
        obtain ⟨a, b⟩ := qm q hq
        exact ⟨1, by decide, okd3 (n := 0) trivial (okS _ (inC _ a)) (okS _ (inC _ b))⟩
      have ok2 : OkD (eL (e3 eI eS eS) (Q.map (tripW pts))) := ⟨2, by decide, okL fun x hx => by
        obtain ⟨q, hq, rfl⟩ := List.mem_map.mp hx
        obtain ⟨a, b⟩ := qm q hq
        exact okd3 (n := 0) trivial (okS _ (inC _ a)) (okS _ (inC _ b))⟩
      have ok3 : OkD (eL (e3 eI eS eS) ([] : List (Int × Str × Str))) := ⟨2, by decide, okL fun x hx => nomatch hx⟩
      have ok4 : ∀ a b : Str, ∀ i : Int, a ∈ ns → b ∈ ns → OkD (e3 eS eS eI (a, b, i)) := fun a b i ha hb => ⟨1, by decide, okd3 (n := 0) (okS _ (inC _ ha)) (okS _ (inC _ hb)) trivial⟩
      have ew2 : F_widest m (eS h) (eI size) = some (.rt (widL pts size h)) := ew
      -- the end, for what is due
      have fin : OkD (e3 eS eS eI (widL pts size h)) → ∀ due, due = widL pts size h → (gd ((IsRt (F_widest m (eS h) (eI size))) ∧ (OkD ((e3 eS eS eI) (valO (F_widest m (eS h) (eI size))))) ∧ (OkD ((e3 eS eS eI) due))) <|
          cond (!deq ((e3 eS eS eI) (valO (F_widest m (eS h) (eI size)))) ((e3 eS eS eI) due)) (nn (some (.rt false))) (some (.nx ())) : Pg Unit Bool) = some (.nx ()) := by
        rintro o due rfl
        rw [valO_eq ew2, gd_pos ⟨isRt_of ew2, o, o⟩, deq_self]
        rfl
      rw [lt_def]
      rcases dw with ⟨en, ewd⟩ | ⟨en, t, eh, dw⟩
      · rw [en, deq_self, gd_pos ⟨ok3, ok3, fun z => by cases z⟩]
        exact fin (by rw [ewd]; exact ok4 _ _ _ hin hin) _ ewd.symm
      · have dn : deq (eL (e3 eI eS eS) (Q.map (tripW pts))) (eL (e3 eI eS eS) []) = false := deq_ne fun z => en (by
          have z2 := D.lst.inj z
          exact List.map_eq_nil_iff.mp z2)
        rw [dn, eh, gd_pos ⟨ok2, ok3, fun _ => ⟨ok1, Option.isSome_some⟩⟩, Option.getD_some]
        rcases dw with ⟨t0, ewd⟩ | ⟨t0, ewd⟩
        · rw [decide_eq_false t0]
          exact fin (by rw [ewd]; exact ok4 _ _ _ hin hin) _ ewd.symm
        · rw [decide_eq_true t0]
          show bindO (gd _ _) _ = _
          rw [gd_pos ⟨ok1, Option.isSome_some, ok1, Option.isSome_some⟩, lt_def, bind_nx]
          refine fin ?_ _ ewd.symm
          rw [ewd]
          have tm : t ∈ Q.map (tripW pts) := by
            obtain ⟨t', e', h'⟩ := sortedT3_some (xs := Q.map (tripW pts)) en
            rw [eh] at e'
            cases e'
            exact h'
          obtain ⟨q, hq, rfl⟩ := List.mem_map.mp tm
          obtain ⟨a, b⟩ := qm q hq
          exact ok4 _ _ _ a b
  · rintro rows0 -
    have et2 : F_trees m = _ := et
    have nn0 : ((heads (nrG pts 13) (names pts)).map fun h => treeF pts 16 h 13).any isNon = false := by
      rw [List.any_map, List.any_eq_false]
      intro h _
      show ¬ isNon (treeF pts 16 h 13) = true
      rw [tree_notNon]
      exact Bool.false_ne_true
    rw [gd_pos (small_lt (by rw [List.length_map]; have := lh 13; omega)), lt_def, gd_pos ⟨isRt_of et, okT⟩, nn0]
    rfl
end NM
namespace NM
open PySem PySem.Spec PyProof.Rows L2
variable [Tbs]
/-! the words that take an expression's reading apart -/
local macro_rules | `(tactic| walk_at "v") => `(tactic| first
  | with_reducible exact ev_int
  | with_reducible exact ev_str
  | with_reducible exact ev_bool
  | with_reducible exact ev_non
  | (with_reducible apply ev_var; with_unfolding_all rfl)
  | (with_reducible apply ev_varO; with_unfolding_all rfl)
  | (with_reducible apply ev_varB; with_unfolding_all rfl)
  | with_reducible exact ev_cst
  | (with_reducible apply ev_add <;> walk_at "v")
  | (with_reducible apply ev_sub <;> walk_at "v")
  | (with_reducible apply ev_lt <;> walk_at "v")
  | (with_reducible apply ev_le <;> walk_at "v")
  | (with_reducible apply ev_gt <;> walk_at "v")
  | (with_reducible apply ev_ge <;> walk_at "v")
  | (with_reducible apply ev_eqI <;> walk_at "v")
  | (with_reducible apply ev_neI <;> walk_at "v")
  | (with_reducible apply ev_eqS <;> walk_at "v")
  | (with_reducible apply ev_neS <;> walk_at "v")
  | (with_reducible apply ev_isN <;> walk_at "v")
  | (with_reducible apply ev_notN <;> walk_at "v")
  | (with_reducible apply ev_notV <;> walk_at "v")
  | (with_reducible apply ev_mod <;> first | walk_at "v" | with_unfolding_all decide)
  | (with_reducible apply ev_div <;> first | walk_at "v" | (constructor <;> with_unfolding_all decide))
  | (with_reducible apply ev_ixT <;> first | walk_at "v" | with_unfolding_all rfl)
  | (with_reducible apply ev_ixL <;> first | walk_at "v" | with_unfolding_all rfl)
  | (with_reducible apply ev_abs <;> walk_at "a")
  | (with_reducible apply ev_max2 <;> walk_at "a")
  | (with_reducible apply ev_min2 <;> walk_at "a")
  | (with_reducible apply ev_intB <;> walk_at "a")
  | (with_reducible apply ev_isInt <;> walk_at "a")
  | (with_reducible apply ev_isBl <;> walk_at "a")
  | (with_reducible apply ev_isStr <;> walk_at "a")
  | (with_reducible apply ev_isTup <;> walk_at "a")
  | (with_reducible apply ev_isLst <;> walk_at "a")
  | (with_reducible apply ev_lenL <;> walk_at "a")
  | (with_reducible apply ev_lenT <;> walk_at "a")
  | (with_reducible apply ev_lenSc <;> walk_at "a")
  | (with_reducible apply ev_lenD <;> walk_at "a")
  | (with_reducible apply ev_sum <;> walk_at "a")
  | (with_reducible apply ev_all <;> walk_at "a")
  | (with_reducible apply ev_listL <;> walk_at "a")
  | (with_reducible apply ev_listD <;> walk_at "a")
  | (with_reducible apply ev_tupleL <;> walk_at "a")
  | (with_reducible apply ev_tup (e := by with_unfolding_all rfl) (hl := by exact Nat.le_of_ble_eq_true rfl) <;> walk_at "a")
  | (with_reducible apply ev_lst (e := by with_unfolding_all rfl) (hl := by exact Nat.le_of_ble_eq_true rfl) <;> walk_at "a")
  | (with_reducible apply ev_no <;> walk_at "v")
  | (with_reducible apply ev_ob <;> walk_at "v")
  | (with_reducible apply ev_im <;> walk_at "v"))
local macro_rules | `(tactic| walk_at "a") => `(tactic| first
  | with_reducible exact ea_nil
  | (with_reducible apply ea_cons; (walk_at "v"); (walk_at "a")))
local macro_rules | `(tactic| walk_at "t") => `(tactic| first
  | (with_reducible apply et_not <;> walk_at "t")
  | (with_reducible apply et_test <;> walk_at "v")
  | (with_reducible apply et_B <;> walk_at "v"))

def top (i : Nat) : Stmt := PySem.Challenge.pw_nearmarks_k51_whole_trees.main.body.getD i (.Pass ⟨0, 0, 0, 0⟩)
/-- a def of the top -/
abbrev Df (K : PySem.W.Frag) (mg : Str → Option Value) (x : Str) (i : Nat) : Prop := ∃ f fd, FunD K x x (defArgs (top i)) (defBody (top i)) (defScope (top i)) [] [] f fd ∧ mg x = some (.ref f)
abbrev Dm (K : PySem.W.Frag) (C m q : Str) (i j : Nat) : Prop := ∃ f fd, FunD K m q (defArgs (inClass (top i) j)) (defBody (inClass (top i) j)) (defScope (inClass (top i) j)) [] [] f fd ∧ Meth K (He.ga K C) m f
structure Cns (K : PySem.W.Frag) (mg : Str → Option Value) : Prop where
  SMALL : ∃ t, mg "SMALL" = some (.str "abcdefghijklmnopqrstuvwxyz" t)
  MOST_WORD : ∃ t, mg "MOST_WORD" = some (.int 6 t)
  MOST_SIDE : ∃ t, mg "MOST_SIDE" = some (.int 4095 t)
  MOST_SIZE : ∃ t, mg "MOST_SIZE" = some (.int 13 t)
  MOST_MARKS : ∃ t, mg "MOST_MARKS" = some (.int 60 t)
  REACHES : mg "REACHES" = some (.ref (He.ga K "REACHES")) ∧ ∀ H, SqT K H (He.ga K "REACHES") ([0, 1, 2, 4, 8, 16, 32, 64, 128, 256, 512, 1024, 2048, 4096].map V.int)
structure Exs (K : PySem.W.Frag) (mg : Str → Option Value) : Prop where
  BadHeap : Ex K mg "BadHeap" (He.ga K "BadHeap")
  BadName : Ex K mg "BadName" (He.ga K "BadName")
  BadPoint : Ex K mg "BadPoint" (He.ga K "BadPoint")
  BadSize : Ex K mg "BadSize" (He.ga K "BadSize")
section
variable {P : Program} {w : World} {K : PySem.W.Frag} {mg : Str → Option Value} {base : Heap} (fr : Free mg) (cn : Cns K mg) (ex : Exs K mg)
abbrev tk0 {X : Cx} := 0
/-! ### is_count -/
abbrev N_is_count : List Str := ["thing", "low", "high"]
theorem sc_is_count : FnScope N_is_count ["thing", "low", "high"] (defScope (top 13)) := ⟨rfl, rfl, rfl, by decide +kernel, rfl, by decide +kernel, by decide +kernel⟩
include fr in
theorem ok_is_count (D : Df K mg "is_count" 13) : FnAt P w K mg base 1 "is_count" ["thing", "low", "high"] (spX K S_is_count 3) := by
  obtain ⟨f, fd, F, hm⟩ := D
  have nd := sc_is_count.nd
  refine fn_ok F sc_is_count hm (fun _ _ _ _ _ _ us hl => match us, hl with | [_, _, _], _ => rfl) (by decide) fun cdv A outer s H E hr => ⟨_, (pss_one (ps_ret (pe_and (pe_callB call_isi rfl fr.isinstance (by decide +kernel) (pa_cons (pv 0) (pa_cons (pe_bltn rfl fr.int (by decide +kernel) (show RelV (.ty "int") _ from rfl)) pa_nil))) (pe_and (pe_not (pe_callB call_isi rfl fr.isinstance (by decide +kernel) (pa_cons (pv 0) (pa_cons (pe_bltn rfl fr.bool (by decide +kernel) (show RelV (.ty "bool") _ from rfl)) pa_nil)))) (pe_one (pe_chain op_le op_le (pv 1) (pv 0) (pv 2))))))), fun rs res hl sp B => ?_⟩
  obtain ⟨d, lo, hi⟩ := sp
  dsimp only [cxOf, List.map, toSl, N_is_count, List.length_cons, List.length_nil, Nat.reduceAdd, Nat.reduceSub, List.replicate_succ, List.replicate_zero, List.cons_append, List.nil_append]
  cases d with
  | int i => exact sx_retE ⟨rfl, trivial⟩ (ev_andV (by walk_at "v") fun _ => ev_andV (by walk_at "v") fun _ => ev_chain (by walk_at "v") (by walk_at "v") fun _ => by walk_at "v") (by rfl)
  | bl b => exact sx_retE ⟨rfl, trivial⟩ (ev_andV (by walk_at "v") fun _ => ev_andV (q := true) (by walk_at "v") fun z => by cases z) (by rfl)
  | _ => exact sx_retE ⟨rfl, trivial⟩ (ev_andV (q := true) (by walk_at "v") fun z => by cases z) (by rfl)

/-! ### is_name -/
abbrev N_is_name : List Str := ["thing", "sign"]
theorem sc_is_name : FnScope N_is_name ["thing"] (defScope (top 14)) := ⟨rfl, rfl, rfl, by decide +kernel, rfl, by decide +kernel, by decide +kernel⟩
include fr cn in
theorem ok_is_name (D : Df K mg "is_name" 14) : FnAt P w K mg base 1 "is_name" ["thing"] (spX K S_is_name 1) := by
  obtain ⟨f, fd, F, hm⟩ := D
  have nd := sc_is_name.nd
  refine fn_ok F sc_is_name hm (fun _ _ _ _ _ _ us hl => match us, hl with | [_], _ => rfl) (by decide) fun cdv A outer s H E hr => ⟨_, (pss_one (ps_ret (pe_and (pe_callB call_isi rfl fr.isinstance (by decide +kernel) (pa_cons (pv 0) (pa_cons (pe_bltn rfl fr.str (by decide +kernel) (show RelV (.ty "str") _ from rfl)) pa_nil))) (pe_and (pe_chain op_le op_le pe_int (pe_callB call_len rfl fr.len (by decide +kernel) (pa_cons (pv 0) pa_nil)) (pe_glob (v := .int 6) rfl cn.MOST_WORD.choose_spec ⟨_, rfl⟩)) (pe_one (pe_callB (cr_all rfl) rfl fr.all (by decide +kernel) (pa_cons (pe_lc (own := [("sign", 1)]) rfl nd (pi_str (pv 0)) (blkOk_by (N := N_is_name) (sc := (defScope (top 14))) (by decide +kernel)) (fun _ _ _ _ _ => (pg_name (i := 1) nd rfl (by first | exact Or.inl rfl | exact Or.inr rfl))) (fun _ _ _ _ _ => pts_nil) (fun _ _ _ _ _ => (pe_cmpR op_in_sign (pv 1) (pe_glob (v := .str "abcdefghijklmnopqrstuvwxyz") rfl cn.SMALL.choose_spec ⟨_, rfl⟩) (by rfl)))) pa_nil))))))), fun rs res hl sp B => ?_⟩
  obtain ⟨d, h⟩ := sp
  dsimp only [cxOf, List.map, toSl, N_is_name, List.length_cons, List.length_nil, Nat.reduceAdd, Nat.reduceSub, List.replicate_succ, List.replicate_zero, List.cons_append, List.nil_append]
  cases d with
  | str s =>
    have hs := h s rfl
    have hall : ∀ te : TE, (∀ c : Nat, Ev K B te [Sl.im (D.str s), Sl.im (.str (sign c))] (.im (.bl (decide (c ∈ small.cps.toList))))) → Ev K B (tLc (iStr (tVar 0)) (gName 1) tYes te [1]) [Sl.im (D.str s), Sl.un] (.ob (.lst ((s.cps.toList.map fun c => decide (c ∈ small.cps.toList)).map .bl))) := fun te h => by
      rw [List.map_map]
      refine ev_no (ev_lcA1 (enc := fun c => D.str (sign c)) (fun c => D.bl (decide (c ∈ small.cps.toList))) (EvF.i (ef_str (ev_var rfl))) (fun c _ => h c) ?_)
      rw [Array.length_toList]
      exact hs
    refine sx_retE ⟨rfl, trivial⟩ (ev_andV (by walk_at "v") fun _ => ev_andV (ev_chain (by walk_at "v") (ev_lenS (by walk_at "a") hs) fun _ => by walk_at "v") fun _ => ev_all (ea_cons (hall _ fun c => ev_inSg (by walk_at "v") ev_str) ea_nil)) ?_
    rfl
  | _ => exact sx_retE ⟨rfl, trivial⟩ (ev_andV (q := true) (by walk_at "v") fun z => by cases z) (by rfl)
/-! ### need_name -/
abbrev N_need_name : List Str := ["thing"]
theorem sc_need_name : FnScope N_need_name ["thing"] (defScope (top 15)) := ⟨rfl, rfl, rfl, by decide +kernel, rfl, by decide +kernel, by decide +kernel⟩
include ex in
theorem ok_need_name (D : Df K mg "need_name" 15) (g_is_name : FnAt P w K mg base 1 "is_name" ["thing"] (spX K S_is_name 1)) : FnAt P w K mg base 2 "need_name" ["thing"] (spX K (S_need (He.ga K "BadName") isName) 1) := by
  obtain ⟨f, fd, F, hm⟩ := D
  have nd := sc_need_name.nd
  refine fn_ok F sc_need_name hm (fun _ _ _ _ _ _ us hl => match us, hl with | [_], _ => rfl) (by decide) fun cdv A outer s H E hr => ?_
  have tk := L2N.takes_of (X := cxOf (L2N.CX P w) P w K mg base N_need_name "need_name" (defScope (top 15)) f cdv A outer s H E) (E := E) rfl rfl rfl rfl
  refine ⟨_, (pss_one (ps_if (pt_not (pt_val (pe_fn g_is_name hr (by decide) rfl (pa_cons (pv 0) pa_nil)))) (pss_one (L2N.ps_raise rfl tk (L2N.pmk_own PySem.F.excBase_ValueError (ex.BadName).x (ex.BadName).g (ex.BadName).k (raises_own (ex.BadName).b (ex.BadName).t) rfl))) pss_nil)), fun rs res hl sp B => ?_⟩
  dsimp only [cxOf]
  rcases sp with ⟨d, h, e⟩ | ⟨d, h, e⟩
  · dsimp only [List.map, toSl, N_need_name, List.length_cons, List.length_nil, Nat.reduceAdd, Nat.reduceSub, List.replicate_succ, List.replicate_zero, List.cons_append, List.nil_append]
    refine sx_if (et_not (et_B (ev_call (by walk_at "a") (fun r hr => by simp at hr; subst hr; trivial) (S_is_name.mk d h) trivial))) (fun z => ?_) fun _ => sx_next rfl
    rw [e] at z
    cases z
  · dsimp only [List.map, toSl, N_need_name, List.length_cons, List.length_nil, Nat.reduceAdd, Nat.reduceSub, List.replicate_succ, List.replicate_zero, List.cons_append, List.nil_append]
    refine sx_if (et_not (et_B (ev_call (by walk_at "a") (fun r hr => by simp at hr; subst hr; trivial) (S_is_name.mk d h) trivial))) (fun _ => sx_raise rfl) fun z => ?_
    rw [e] at z
    cases z
/-! ### need_size -/
abbrev N_need_size : List Str := ["thing"]
theorem sc_need_size : FnScope N_need_size ["thing"] (defScope (top 17)) := ⟨rfl, rfl, rfl, by decide +kernel, rfl, by decide +kernel, by decide +kernel⟩
include ex cn in
theorem ok_need_size (D : Df K mg "need_size" 17) (g_is_count : FnAt P w K mg base 1 "is_count" ["thing", "low", "high"] (spX K S_is_count 3)) : FnAt P w K mg base 2 "need_size" ["thing"] (spX K (S_need (He.ga K "BadSize") isSize) 1) := by
  obtain ⟨f, fd, F, hm⟩ := D
  have nd := sc_need_size.nd
  refine fn_ok F sc_need_size hm (fun _ _ _ _ _ _ us hl => match us, hl with | [_], _ => rfl) (by decide) fun cdv A outer s H E hr => ?_
  have tk := L2N.takes_of (X := cxOf (L2N.CX P w) P w K mg base N_need_size "need_size" (defScope (top 17)) f cdv A outer s H E) (E := E) rfl rfl rfl rfl
  refine ⟨_, (pss_one (ps_if (pt_not (pt_val (pe_fn g_is_count hr (by decide) rfl (pa_cons (pv 0) (pa_cons pe_int (pa_cons (pe_glob (v := .int 13) rfl cn.MOST_SIZE.choose_spec ⟨_, rfl⟩) pa_nil)))))) (pss_one (L2N.ps_raise rfl tk (L2N.pmk_own PySem.F.excBase_ValueError (ex.BadSize).x (ex.BadSize).g (ex.BadSize).k (raises_own (ex.BadSize).b (ex.BadSize).t) rfl))) pss_nil)), fun rs res hl sp B => ?_⟩
  have cnt : ∀ d : NM.D, EvT K B (tB (tCall (spX K S_is_count 3) [] E0 (tCons (tVar 0) (tCons (tC (.int 0)) (tCons (tC (.int 13)) tNil))))) [Sl.im d] (isCount d 0 13) := fun d => et_B (ev_call (by walk_at "a") (fun r hr => by simp at hr; rcases hr with rfl | rfl | rfl <;> trivial) (S_is_count.mk d 0 13) trivial)
  rcases sp with ⟨d, h, e⟩ | ⟨d, h, e⟩
  · dsimp only [cxOf, List.map, toSl, N_need_size, List.length_cons, List.length_nil, Nat.reduceAdd, Nat.reduceSub, List.replicate_succ, List.replicate_zero, List.cons_append, List.nil_append]
    refine sx_if (et_not (cnt d)) (fun z => ?_) fun _ => sx_next rfl
    rw [show isCount d 0 13 = true from e] at z
    cases z
  · dsimp only [cxOf, List.map, toSl, N_need_size, List.length_cons, List.length_nil, Nat.reduceAdd, Nat.reduceSub, List.replicate_succ, List.replicate_zero, List.cons_append, List.nil_append]
    refine sx_if (et_not (cnt d)) (fun _ => sx_raise rfl) fun z => ?_
    rw [show isCount d 0 13 = false from e] at z
    cases z
/-! ### need_point -/
abbrev N_need_point : List Str := ["thing", "one"]
theorem sc_need_point : FnScope N_need_point ["thing"] (defScope (top 16)) := ⟨rfl, rfl, rfl, by decide +kernel, rfl, by decide +kernel, by decide +kernel⟩
include fr ex cn in
theorem ok_need_point (D : Df K mg "need_point" 16) (g_is_count : FnAt P w K mg base 1 "is_count" ["thing", "low", "high"] (spX K S_is_count 3)) : FnAt P w K mg base 2 "need_point" ["thing"] (spX K (S_need (He.ga K "BadPoint") isPoint) 1) := by
  obtain ⟨f, fd, F, hm⟩ := D
  have nd := sc_need_point.nd
  refine fn_ok F sc_need_point hm (fun _ _ _ _ _ _ us hl => match us, hl with | [_], _ => rfl) (by decide) fun cdv A outer s H E hr => ?_
  have tk := L2N.takes_of (X := cxOf (L2N.CX P w) P w K mg base N_need_point "need_point" (defScope (top 16)) f cdv A outer s H E) (E := E) rfl rfl rfl rfl
  refine ⟨_, (pss_one (ps_if (PW.pt (pw_or (pt_not (pt_val (pe_callB call_isi rfl fr.isinstance (by decide +kernel) (pa_cons (pv 0) (pa_cons (pe_bltn rfl fr.tuple (by decide +kernel) (show RelV (.ty "tuple") _ from rfl)) pa_nil))))) (pw_or (pt_cmpR op_ne (pe_callB call_len rfl fr.len (by decide +kernel) (pa_cons (pv 0) pa_nil)) pe_int (nomark _)) (pw_or1 (pt_not (pt_val (pe_callB (cr_all rfl) rfl fr.all (by decide +kernel) (pa_cons (pe_lc (own := [("one", 1)]) rfl nd (pi_tup (pv 0)) (blkOk_by (N := N_need_point) (sc := (defScope (top 16))) (by decide +kernel)) (fun _ _ _ _ _ => (pg_name (i := 1) nd rfl (by first | exact Or.inl rfl | exact Or.inr rfl))) (fun _ _ _ _ _ => pts_nil) (fun _ _ _ _ _ => (pe_fn g_is_count hr (by decide) rfl (pa_cons (pv 1) (pa_cons pe_int (pa_cons (pe_glob (v := .int 4095) rfl cn.MOST_SIDE.choose_spec ⟨_, rfl⟩) pa_nil)))))) pa_nil)))))))) (pss_one (L2N.ps_raise rfl tk (L2N.pmk_own PySem.F.excBase_ValueError (ex.BadPoint).x (ex.BadPoint).g (ex.BadPoint).k (raises_own (ex.BadPoint).b (ex.BadPoint).t) rfl))) pss_nil)), fun rs res hl sp B => ?_⟩
  have cnt : ∀ d x : NM.D, Ev K B (tCall (spX K S_is_count 3) [] E0 (tCons (tVar 1) (tCons (tC (.int 0)) (tCons (tC (.int 4095)) tNil)))) [Sl.im d, Sl.im x] (.im (.bl (isCount x 0 4095))) := fun d x => ev_call (by walk_at "a") (fun r hr => by simp at hr; rcases hr with rfl | rfl | rfl <;> trivial) (S_is_count.mk x 0 4095) trivial
  have two : ∀ a b : NM.D, Ev K B (tLc (iTup K (tVar 0)) (gName 1) tYes (tCall (spX K S_is_count 3) [] E0 (tCons (tVar 1) (tCons (tC (.int 0)) (tCons (tC (.int 4095)) tNil)))) [1]) [Sl.im (.tup [a, b]), Sl.un] (.ob (.lst ([isCount a 0 4095, isCount b 0 4095].map .bl))) := fun a b =>
    ev_no (ev_lcA1 (xs := [a, b]) (enc := fun d => d) (fun x => .bl (isCount x 0 4095)) (EvF.i (ef_tup (ev_var rfl))) (fun x _ => cnt _ x) (by show 2 ≤ sizeLine; decide))
  have main : ∀ d : NM.D, (isPoint d = false → ∀ t P, Sx K B (fun cls d _ H => E cls d H) t [Sl.im d, Sl.un] P → True) := fun _ _ _ _ _ => trivial
  rcases sp with ⟨d, h, e⟩ | ⟨d, h, e⟩
  · dsimp only [cxOf, List.map, toSl, N_need_point, List.length_cons, List.length_nil, Nat.reduceAdd, Nat.reduceSub, List.replicate_succ, List.replicate_zero, List.cons_append, List.nil_append]
    have hd : ∃ a b, d = .tup [a, b] ∧ isCount a 0 4095 = true ∧ isCount b 0 4095 = true := by
      unfold isPoint at e
      split at e
      · rename_i a b
        rw [Bool.and_eq_true] at e
        exact ⟨a, b, rfl, e.1, e.2⟩
      · cases e
    obtain ⟨a, b, rfl, ea, eb⟩ := hd
    refine sx_if (et_or (et_not (et_B (by walk_at "v"))) fun _ => et_or (et_test (ev_neI (ev_lenT (by walk_at "a")) ev_int)) fun _ => et_not (et_B (ev_all (ea_cons (two a b) ea_nil)))) (fun z => ?_) fun _ => sx_next rfl
    rw [ea, eb] at z
    cases z
  · dsimp only [cxOf, List.map, toSl, N_need_point, List.length_cons, List.length_nil, Nat.reduceAdd, Nat.reduceSub, List.replicate_succ, List.replicate_zero, List.cons_append, List.nil_append]
    by_cases ht : isTup d = true
    · cases d with
      | tup ds =>
        by_cases hl2 : (ds.length : Int) = 2
        · match ds, hl2, e with
          | [a, b], _, e =>
            refine sx_if (et_or (et_not (et_B (by walk_at "v"))) fun _ => et_or (et_test (ev_neI (ev_lenT (by walk_at "a")) ev_int)) fun _ => et_not (et_B (ev_all (ea_cons (two a b) ea_nil)))) (fun _ => sx_raise rfl) fun z => ?_
            have e' : (isCount a 0 4095 && isCount b 0 4095) = false := e
            cases ea : isCount a 0 4095 <;> cases eb : isCount b 0 4095 <;> rw [ea, eb] at z e' <;> first | (cases z; done) | (cases e'; done)
          | [], z, _ => simp at z
          | [_], z, _ => simp at z
          | _ :: _ :: _ :: _, z, _ => simp at z; omega
        · refine sx_if (et_or (et_not (et_B (by walk_at "v"))) fun _ => et_or (q := true) (et_test (ev_neI (ev_lenT (by walk_at "a")) ev_int)) fun z => ?_) (fun _ => sx_raise rfl) fun z => ?_
          · rw [decide_eq_false hl2] at z
            cases z
          · rw [decide_eq_false hl2] at z
            cases z
      | _ => cases ht
    · refine sx_if (et_or (q := true) (et_not (et_B (by walk_at "v"))) fun z => ?_) (fun _ => sx_raise rfl) fun z => ?_
      · rw [Bool.eq_false_iff.mpr ht] at z
        cases z
      · rw [Bool.eq_false_iff.mpr ht] at z
        cases z
/-! ### need_box -/
abbrev N_reach : List Str := ["size"]
theorem sc_reach : FnScope N_reach ["size"] (defScope (top 18)) := ⟨rfl, rfl, rfl, by decide +kernel, rfl, by decide +kernel, by decide +kernel⟩
include cn in
theorem ok_reach (D : Df K mg "reach" 18) : FnAt P w K mg base 1 "reach" ["size"] (spX K S_reach 1) := by
  obtain ⟨f, fd, F, hm⟩ := D
  have nd := sc_reach.nd
  refine fn_ok F sc_reach hm (fun _ _ _ _ _ _ us hl => match us, hl with | [_], _ => rfl) (by decide) fun cdv A outer s H E hr => ?_
  have tk := L2N.takes_of (X := cxOf (L2N.CX P w) P w K mg base N_reach "reach" (defScope (top 18)) f cdv A outer s H E) (E := E) rfl rfl rfl rfl
  refine ⟨_, (pss_one (ps_ret (pe_ix ix_tup (pe_glob (v := .ref (He.ga K "REACHES")) rfl cn.REACHES.1 rfl) (pv 0) (fun _ _ => rfl)))), fun rs res hl sp B => ?_⟩
  obtain ⟨k, h⟩ := sp
  dsimp only [cxOf, List.map, toSl, N_reach, List.length_cons, List.length_nil, Nat.reduceAdd, Nat.reduceSub, List.replicate_succ, List.replicate_zero, List.cons_append, List.nil_append]
  refine sx_retE ⟨rfl, trivial⟩ (ev_ixT (ds := reaches.map .int) (i := k) (ev_refT cn.REACHES.2 fun F => RpL.of_ints _) (by walk_at "v") (atI_nat (v := .int (reachN k)) ?_)) (by rfl)
  rw [List.getElem?_map]
  unfold reachN
  rw [List.getD_eq_getElem?_getD, List.getElem?_eq_getElem (show k < reaches.length from h)]
  rfl
abbrev N_apart : List Str := ["one", "other"]
theorem sc_apart : FnScope N_apart ["one", "other"] (defScope (top 19)) := ⟨rfl, rfl, rfl, by decide +kernel, rfl, by decide +kernel, by decide +kernel⟩
include fr in
theorem ok_apart (D : Df K mg "apart" 19) : FnAt P w K mg base 1 "apart" ["one", "other"] (spX K S_apart 2) := by
  obtain ⟨f, fd, F, hm⟩ := D
  have nd := sc_apart.nd
  refine fn_ok F sc_apart hm (fun _ _ _ _ _ _ us hl => match us, hl with | [_, _], _ => rfl) (by decide) fun cdv A outer s H E hr => ?_
  have tk := L2N.takes_of (X := cxOf (L2N.CX P w) P w K mg base N_apart "apart" (defScope (top 19)) f cdv A outer s H E) (E := E) rfl rfl rfl rfl
  refine ⟨_, (pss_one (ps_ret (pe_callB (call_max2 rfl) rfl fr.max (by decide +kernel) (pa_cons (pe_callB call_abs rfl fr.abs (by decide +kernel) (pa_cons (pe_op op_sub (pe_ix ix_tup (pv 0) pe_int (fun _ _ => rfl)) (pe_ix ix_tup (pv 1) pe_int (fun _ _ => rfl))) pa_nil)) (pa_cons (pe_callB call_abs rfl fr.abs (by decide +kernel) (pa_cons (pe_op op_sub (pe_ix ix_tup (pv 0) pe_int (fun _ _ => rfl)) (pe_ix ix_tup (pv 1) pe_int (fun _ _ => rfl))) pa_nil)) pa_nil))))), fun rs res hl sp B => ?_⟩
  obtain ⟨a, b, c, d⟩ := sp
  dsimp only [cxOf, List.map, toSl, N_apart, List.length_cons, List.length_nil, Nat.reduceAdd, Nat.reduceSub, List.replicate_succ, List.replicate_zero, List.cons_append, List.nil_append]
  exact sx_retE ⟨rfl, trivial⟩ (d' := .int (max (if a - c < 0 then -(a - c) else a - c) (if b - d < 0 then -(b - d) else b - d))) (by walk_at "v") (by rfl)
/-! ### the law's own: cells, drawn numbers, points, how far -/
abbrev N__law_cell : List Str := ["_law_script", "_law_k"]
theorem sc__law_cell : FnScope N__law_cell ["_law_script", "_law_k"] (defScope (top 30)) := ⟨rfl, rfl, rfl, by decide +kernel, rfl, by decide +kernel, by decide +kernel⟩
theorem ok__law_cell (fr : Free mg) (D : Df K mg "_law_cell" 30) : FnAt P w K mg base 1 "_law_cell" ["_law_script", "_law_k"] (spX K S_cell 2) := by
  obtain ⟨f, fd, F, hm⟩ := D
  have nd := sc__law_cell.nd
  refine fn_ok F sc__law_cell hm (fun _ _ _ _ _ _ us hl => match us, hl with | [_, _], _ => rfl) (by decide) fun cdv A outer s H E hr => ?_
  have tk := L2N.takes_of (X := cxOf (L2N.CX P w) P w K mg base N__law_cell "_law_cell" (defScope (top 30)) f cdv A outer s H E) (E := E) rfl rfl rfl rfl
  refine ⟨_, (pss_cons (ps_if (pt_cmpR (op_eqD hr.units) (pv 0) (pe_lst pa_nil) (nomark _)) (pss_one (ps_ret (pe_op op_mul (pv 1) pe_int))) pss_nil)
      (pss_one (ps_ret (pe_op op_add (pe_ix ix_list (pv 0) (pe_op op_mod (pv 1) (pe_callB call_len rfl fr.len (by decide +kernel) (pa_cons (pv 0) pa_nil))) (fun _ _ => rfl)) (pe_op op_mul (pe_op op_fdiv (pv 1) (pe_callB call_len rfl fr.len (by decide +kernel) (pa_cons (pv 0) pa_nil))) pe_int))))), fun rs res hl sp B => ?_⟩
  obtain ⟨ns, k, hn, hk⟩ := sp
  dsimp only [cxOf, List.map, toSl, N__law_cell, List.length_cons, List.length_nil, Nat.reduceAdd, Nat.reduceSub, List.replicate_succ, List.replicate_zero, List.cons_append, List.nil_append]
  have m1 : CMul (k : Int) 7919 := .inl (by constructor <;> omega)
  by_cases h : ns = []
  · refine sx_seq (sx_if (et_test (ev_eqSc0 (ev_varB rfl) (ev_no (ev_lst (rs := []) ea_nil)))) (fun _ => ?_) fun z => ?_)
    · refine sx_retE ⟨rfl, trivial⟩ (ev_mul (by walk_at "v") ev_int m1) ?_
      unfold cellV
      rw [if_pos h]
    · rw [decide_eq_true h] at z
      cases z
  · have hl : 0 < ns.length := List.length_pos_iff.mpr h
    refine sx_seq (sx_if (et_test (ev_eqSc0 (ev_varB rfl) (ev_no (ev_lst (rs := []) ea_nil)))) (fun z => ?_) fun _ => sx_next ?_)
    · rw [decide_eq_false h] at z
      cases z
    · have hlt : k % ns.length < ns.length := Nat.mod_lt _ hl
      have hq : (k : Int) / (ns.length : Int) = ((k / ns.length : Nat) : Int) := by norm_cast
      have hb : k / ns.length ≤ k := Nat.div_le_self _ _
      refine sx_retE ⟨rfl, trivial⟩ (ev_add (ev_ixSc (n := ns.getD (k % ns.length) 0) (ev_varB rfl) (ev_mod (by walk_at "v") (ev_lenSc (ea_cons (ev_varB rfl) ea_nil)) (by omega)) ?_) (ev_mul (ev_div (by walk_at "v") (ev_lenSc (ea_cons (ev_varB rfl) ea_nil)) ⟨by omega, by omega⟩) ev_int (.inl ?_))) ?_
      · have e : (k : Int) % (ns.length : Int) = ((k % ns.length : Nat) : Int) := by norm_cast
        rw [e]
        refine atI_nat ?_
        rw [List.getD_eq_getElem?_getD, List.getElem?_eq_getElem hlt]
        rfl
      · have h0 : 0 ≤ (k : Int) / (ns.length : Int) := Int.ediv_nonneg (by omega) (by omega)
        constructor <;> omega
      · unfold cellV
        rw [if_neg h]
abbrev N__law_drawn : List Str := ["_law_cell_here", "_law_k", "_law_more"]
theorem sc__law_drawn : FnScope N__law_drawn ["_law_cell_here", "_law_k"] (defScope (top 31)) := ⟨rfl, rfl, rfl, by decide +kernel, rfl, by decide +kernel, by decide +kernel⟩
theorem ok__law_drawn (D : Df K mg "_law_drawn" 31) : FnAt P w K mg base 1 "_law_drawn" ["_law_cell_here", "_law_k"] (spX K S_drawn 2) := by
  obtain ⟨f, fd, F, hm⟩ := D
  have nd := sc__law_drawn.nd
  refine fn_ok F sc__law_drawn hm (fun _ _ _ _ _ _ us hl => match us, hl with | [_, _], _ => rfl) (by decide) fun cdv A outer s H E hr => ?_
  have tk := L2N.takes_of (X := cxOf (L2N.CX P w) P w K mg base N__law_drawn "_law_drawn" (defScope (top 31)) f cdv A outer s H E) (E := E) rfl rfl rfl rfl
  refine ⟨_, (pss_cons (ps_set (i := 2) nd rfl (by first | exact Or.inl rfl | exact Or.inr rfl) (pe_op op_mod (pe_op op_add (pe_op op_mul (pv 0) pe_int) (pe_op op_mul (pe_op op_add (pv 1) pe_int) pe_int)) pe_int))
      (pss_cons (ps_set (i := 2) nd rfl (by first | exact Or.inl rfl | exact Or.inr rfl) (pe_op op_mod (pe_op op_mulW (pv 2) (pv 2)) pe_int))
      (pss_cons (ps_set (i := 2) nd rfl (by first | exact Or.inl rfl | exact Or.inr rfl) (pe_op op_mulW (pe_op op_mulW (pe_op op_add (pe_op op_mod (pv 2) pe_int) pe_int) (pe_op op_add (pe_op op_fdivW (pv 2) pe_int) pe_int)) (pv 2)))
      (pss_one (ps_ret (pe_op op_mod (pv 2) pe_int)))))), fun rs res hl sp B => ?_⟩
  obtain ⟨c, k, hk⟩ := sp
  dsimp only [cxOf, List.map, toSl, N__law_drawn, List.length_cons, List.length_nil, Nat.reduceAdd, Nat.reduceSub, List.replicate_succ, List.replicate_zero, List.cons_append, List.nil_append]
  have b1 : (dr1 c k).natAbs < 2 ^ 129 := by
    have x1 : 0 ≤ dr1 c k := Int.emod_nonneg _ (by decide)
    have x2 : dr1 c k < p1 := Int.emod_lt_of_pos _ (by decide)
    have x3 : p1 < 2 ^ 129 := by decide
    omega
  have n2 : 0 ≤ dr2 c k := Int.emod_nonneg _ (by decide)
  have b2 : (dr2 c k).natAbs < 2 ^ 128 := by
    have x2 : dr2 c k < p2 := Int.emod_lt_of_pos _ (by decide)
    have x3 : p2 < 2 ^ 128 := by decide
    omega
  have b3 : (dr2 c k % q1 + 1).natAbs < 2 ^ 65 := by
    have x1 : 0 ≤ dr2 c k % q1 := Int.emod_nonneg _ (by decide)
    have x2 : dr2 c k % q1 < q1 := Int.emod_lt_of_pos _ (by decide)
    have x3 : q1 < 2 ^ 64 := by decide
    omega
  have b4 : (dr2 c k / q1 + 1).natAbs < 2 ^ 129 := by
    have x1 : 0 ≤ dr2 c k / q1 := Int.ediv_nonneg n2 (by decide)
    have x2 : dr2 c k / q1 ≤ dr2 c k := Int.ediv_le_self _ n2
    omega
  refine sx_seq (sx_asg (d := .int (dr1 c k)) (ev_is (ev_mod (ev_add (ev_mul (by walk_at "v") ev_int (.inr (by decide))) (ev_mul (by walk_at "v") ev_int (.inr (by decide)))) ev_int (by decide)) rfl) ?_)
  refine sx_seq (sx_asg (d := .int (dr2 c k)) (ev_is (ev_mod (ev_mulW (ev_var (d := .int (dr1 c k)) rfl) (ev_var (d := .int (dr1 c k)) rfl) (wide_mul b1 b1 (by decide) (by decide) (by decide))) ev_int (by decide)) rfl) ?_)
  refine sx_seq (sx_asg (d := .int ((dr2 c k % q1 + 1) * (dr2 c k / q1 + 1) * dr2 c k)) (ev_mulW (ev_mulW (ev_add (ev_mod (ev_var (d := .int (dr2 c k)) rfl) ev_int (by decide)) ev_int)
    (ev_add (ev_divW (ev_var (d := .int (dr2 c k)) rfl) ev_int (wide_div (b := 64) (by decide) (by decide) (by decide) (by decide))) ev_int) (wide_mul b3 b4 (by decide) (by decide) (by decide))) (ev_var (d := .int (dr2 c k)) rfl) (wide_mul (wide_lt b3 b4) b2 (by decide) (by decide) (by decide))) ?_)
  exact sx_retE ⟨rfl, trivial⟩ (ev_mod (ev_var rfl) ev_int (by decide)) rfl
abbrev N__law_point : List Str := ["_law_more", "_law_here", "_law_by"]
theorem sc__law_point : FnScope N__law_point ["_law_more"] (defScope (top 32)) := ⟨rfl, rfl, rfl, by decide +kernel, rfl, by decide +kernel, by decide +kernel⟩
theorem ok__law_point (D : Df K mg "_law_point" 32) : FnAt P w K mg base 1 "_law_point" ["_law_more"] (spX K S_point 1) := by
  obtain ⟨f, fd, F, hm⟩ := D
  have nd := sc__law_point.nd
  refine fn_ok F sc__law_point hm (fun _ _ _ _ _ _ us hl => match us, hl with | [_], _ => rfl) (by decide) fun cdv A outer s H E hr => ?_
  have tk := L2N.takes_of (X := cxOf (L2N.CX P w) P w K mg base N__law_point "_law_point" (defScope (top 32)) f cdv A outer s H E) (E := E) rfl rfl rfl rfl
  refine ⟨_, (pss_cons (ps_set (i := 1) nd rfl (by first | exact Or.inl rfl | exact Or.inr rfl) (pe_op op_fdiv (pv 0) pe_int))
      (pss_cons (ps_if (pt_cmpR op_eq (pe_op op_mod (pv 0) pe_int) pe_int (nomark _)) (pss_one (ps_ret (pe_tup (pa_cons (pe_op op_mod (pv 1) pe_int) (pa_cons (pe_op op_mod (pe_op op_fdiv (pv 1) pe_int) pe_int) pa_nil))))) pss_nil)
      (pss_cons (ps_set (i := 2) nd rfl (by first | exact Or.inl rfl | exact Or.inr rfl) (pe_ix ix_list (pe_lst (pa_cons pe_int (pa_cons pe_int (pa_cons pe_int (pa_cons pe_int pa_nil))))) (pe_op op_mod (pe_op op_fdiv (pv 1) (pe_op op_pow pe_int pe_int)) pe_int) (fun _ _ => rfl)))
      (pss_one (ps_ret (pe_tup (pa_cons (pe_op op_mul (pe_op op_mod (pv 1) pe_int) (pv 2)) (pa_cons (pe_op op_mul (pe_op op_mod (pe_op op_fdiv (pv 1) pe_int) pe_int) (pv 2)) pa_nil)))))))), fun rs res hl sp B => ?_⟩
  obtain ⟨m⟩ := sp
  dsimp only [cxOf, List.map, toSl, N__law_point, List.length_cons, List.length_nil, Nat.reduceAdd, Nat.reduceSub, List.replicate_succ, List.replicate_zero, List.cons_append, List.nil_append]
  refine sx_seq (sx_asg (ev_div (by walk_at "v") ev_int ⟨by decide, by decide⟩) ?_)
  have pw : (2 : Int) ^ (24 : Int).toNat = 2 ^ 24 := rfl
  by_cases h : m % 4 = 0
  · refine sx_seq (sx_if (et_test (ev_eqI (ev_mod (ev_var rfl) ev_int (by decide)) ev_int)) (fun _ => ?_) fun z => ?_)
    · refine sx_retE ⟨rfl, trivial⟩ (ev_tup (ea_cons (ev_mod (ev_var (d := .int (m / 8)) rfl) ev_int (by decide)) (ea_cons (ev_mod (ev_div (ev_var (d := .int (m / 8)) rfl) ev_int ⟨by decide, by decide⟩) ev_int (by decide)) ea_nil))) ?_
      unfold ptX ptY
      rw [if_pos h, if_pos h]
      rfl
    · rw [decide_eq_true h] at z
      cases z
  · refine sx_seq (sx_if (et_test (ev_eqI (ev_mod (ev_var rfl) ev_int (by decide)) ev_int)) (fun z => ?_) fun _ => sx_next ?_)
    · rw [decide_eq_false h] at z
      cases z
    · have x1 : 0 ≤ m / 8 / 2 ^ 24 % 4 := Int.emod_nonneg _ (by decide)
      have x2 : m / 8 / 2 ^ 24 % 4 < 4 := Int.emod_lt_of_pos _ (by decide)
      have hat : L2.atI (byL.map NM.D.int) (m / 8 / (2 : Int) ^ (24 : Int).toNat % 4) = some (.int (byV (m / 8))) := by
        rw [pw]
        have e : m / 8 / 2 ^ 24 % 4 = (((m / 8 / 2 ^ 24 % 4).toNat : Nat) : Int) := by omega
        rw [e]
        refine atI_nat ?_
        have e4 : (m / 8 / 2 ^ 24 % 4).toNat < byL.length := by
          show _ < 4
          omega
        rw [List.getElem?_map, List.getElem?_eq_getElem e4]
        unfold byV
        rw [List.getD_eq_getElem?_getD, List.getElem?_eq_getElem e4]
        rfl
      refine sx_seq (sx_asg (d := .int (byV (m / 8))) (ev_ixL (ds := byL.map .int) (ev_no (ev_lst (rs := [.im (.int 1), .im (.int 3), .im (.int 10), .im (.int 100)]) (by walk_at "a")))
        (ev_mod (ev_div (ev_var (d := .int (m / 8)) rfl) (ev_pow ev_int ev_int ⟨by decide, by decide, by decide⟩) ⟨by decide, by decide⟩) ev_int (by decide)) hat) ?_)
      obtain ⟨b1, b2⟩ := byV_le (m / 8)
      have y1 : 0 ≤ m / 8 % 12 := Int.emod_nonneg _ (by decide)
      have y2 : m / 8 % 12 < 12 := Int.emod_lt_of_pos _ (by decide)
      have y3 : 0 ≤ m / 8 / 16 % 12 := Int.emod_nonneg _ (by decide)
      have y4 : m / 8 / 16 % 12 < 12 := Int.emod_lt_of_pos _ (by decide)
      refine sx_retE ⟨rfl, trivial⟩ (ev_tup (ea_cons (ev_mul (ev_mod (ev_var (d := .int (m / 8)) rfl) ev_int (by decide)) (ev_var (d := .int (byV (m / 8))) rfl) (.inl ⟨by omega, by omega⟩))
        (ea_cons (ev_mul (ev_mod (ev_div (ev_var (d := .int (m / 8)) rfl) ev_int ⟨by decide, by decide⟩) ev_int (by decide)) (ev_var (d := .int (byV (m / 8))) rfl) (.inl ⟨by omega, by omega⟩)) ea_nil))) ?_
      unfold ptX ptY
      rw [if_neg h, if_neg h]
      rfl
abbrev N__law_far : List Str := ["_law_one", "_law_other"]
theorem sc__law_far : FnScope N__law_far ["_law_one", "_law_other"] (defScope (top 33)) := ⟨rfl, rfl, rfl, by decide +kernel, rfl, by decide +kernel, by decide +kernel⟩
theorem ok__law_far (fr : Free mg) (D : Df K mg "_law_far" 33) : FnAt P w K mg base 1 "_law_far" ["_law_one", "_law_other"] (spX K S_lfar 2) := by
  obtain ⟨f, fd, F, hm⟩ := D
  have nd := sc__law_far.nd
  refine fn_ok F sc__law_far hm (fun _ _ _ _ _ _ us hl => match us, hl with | [_, _], _ => rfl) (by decide) fun cdv A outer s H E hr => ?_
  have tk := L2N.takes_of (X := cxOf (L2N.CX P w) P w K mg base N__law_far "_law_far" (defScope (top 33)) f cdv A outer s H E) (E := E) rfl rfl rfl rfl
  refine ⟨_, (pss_one (ps_ret (pe_ix ix_list (pe_callB (cr_sortedG hr.units) rfl fr.sorted (by decide +kernel) (pa_cons (pe_lst (pa_cons (pe_callB call_abs rfl fr.abs (by decide +kernel) (pa_cons (pe_op op_sub (pe_ix ix_tup (pv 0) pe_int (fun _ _ => rfl)) (pe_ix ix_tup (pv 1) pe_int (fun _ _ => rfl))) pa_nil)) (pa_cons (pe_callB call_abs rfl fr.abs (by decide +kernel) (pa_cons (pe_op op_sub (pe_ix ix_tup (pv 0) pe_int (fun _ _ => rfl)) (pe_ix ix_tup (pv 1) pe_int (fun _ _ => rfl))) pa_nil)) pa_nil))) pa_nil)) pe_int (fun _ _ => rfl)))), fun rs res hl sp B => ?_⟩
  obtain ⟨a, b, c, d⟩ := sp
  dsimp only [cxOf, List.map, toSl, N__law_far, List.length_cons, List.length_nil, Nat.reduceAdd, Nat.reduceSub, List.replicate_succ, List.replicate_zero, List.cons_append, List.nil_append]
  refine sx_retE ⟨rfl, trivial⟩ (d' := .int (cheb a b c d)) (ev_ixL (ds := (sortO [iabs (a - c), iabs (b - d)]).map .int) (i := (1 : Nat)) (ev_no (ev_sorted (n := 0) (enc := NM.D.int) (xs := [iabs (a - c), iabs (b - d)]) (fun x => by simp [py, int_toD]) (fun _ _ => trivial) (by decide) (.inr fun x _ ds z => by rw [int_toD] at z; cases z)
    (ea_cons (ev_no (ev_lst (rs := [.im (.int (iabs (a - c))), .im (.int (iabs (b - d)))]) (ea_cons (ev_abs (ea_cons (ev_sub (by walk_at "v") (by walk_at "v")) ea_nil)) (ea_cons (ev_abs (ea_cons (ev_sub (by walk_at "v") (by walk_at "v")) ea_nil)) ea_nil)))) ea_nil))) ev_int (atI_nat ?_)) rfl
  rw [List.getElem?_map, sort2]
  rfl
abbrev N__law_near : List Str := ["_law_one", "_law_other", "_law_size", "_law_most"]
theorem sc__law_near : FnScope N__law_near ["_law_one", "_law_other", "_law_size"] (defScope (top 34)) := ⟨rfl, rfl, rfl, by decide +kernel, rfl, by decide +kernel, by decide +kernel⟩
theorem ok__law_near (D : Df K mg "_law_near" 34) (g__law_far : FnAt P w K mg base 1 "_law_far" ["_law_one", "_law_other"] (spX K S_lfar 2)) : FnAt P w K mg base 2 "_law_near" ["_law_one", "_law_other", "_law_size"] (spX K S_lnear 3) := by
  obtain ⟨f, fd, F, hm⟩ := D
  have nd := sc__law_near.nd
  refine fn_ok F sc__law_near hm (fun _ _ _ _ _ _ us hl => match us, hl with | [_, _, _], _ => rfl) (by decide) fun cdv A outer s H E hr => ?_
  have tk := L2N.takes_of (X := cxOf (L2N.CX P w) P w K mg base N__law_near "_law_near" (defScope (top 34)) f cdv A outer s H E) (E := E) rfl rfl rfl rfl
  refine ⟨_, (pss_cons (ps_set (i := 3) nd rfl (by first | exact Or.inl rfl | exact Or.inr rfl) (pe_ix ix_list (pe_lst (pa_cons pe_int (pa_cons pe_int (pa_cons pe_int (pa_cons pe_int (pa_cons pe_int (pa_cons pe_int (pa_cons pe_int (pa_cons pe_int (pa_cons pe_int (pa_cons pe_int (pa_cons pe_int (pa_cons pe_int (pa_cons pe_int (pa_cons pe_int pa_nil))))))))))))))) (pv 2) (fun _ _ => rfl)))
      (pss_one (ps_ret (pe_cmpR op_le (pe_fn g__law_far hr (by decide) rfl (pa_cons (pv 0) (pa_cons (pv 1) pa_nil))) (pv 3) (nomark _))))), fun rs res hl sp B => ?_⟩
  obtain ⟨a, b, c, d, k, h⟩ := sp
  dsimp only [cxOf, List.map, toSl, N__law_near, List.length_cons, List.length_nil, Nat.reduceAdd, Nat.reduceSub, List.replicate_succ, List.replicate_zero, List.cons_append, List.nil_append]
  have hat : L2.atI (reaches.map NM.D.int) (k : Int) = some (.int (reachN k)) := atI_nat (by
    rw [List.getElem?_map]
    unfold reachN
    rw [List.getD_eq_getElem?_getD, List.getElem?_eq_getElem (show k < reaches.length from h)]
    rfl)
  refine sx_seq (sx_asg (d := .int (reachN k)) (ev_ixL (ds := reaches.map .int) (ev_no (ev_lst (rs := (reaches.map NM.D.int).map .im) (show EvA K B _ _ [.im (.int 0), .im (.int 1), .im (.int 2), .im (.int 4), .im (.int 8), .im (.int 16), .im (.int 32), .im (.int 64), .im (.int 128), .im (.int 256), .im (.int 512), .im (.int 1024), .im (.int 2048), .im (.int 4096)] by walk_at "a"))) (by walk_at "v") hat) ?_)
  exact sx_retE ⟨rfl, trivial⟩ (ev_le (ev_call (by walk_at "a") flat2 (S_lfar.mk a b c d) trivial) (ev_var (d := .int (reachN k)) rfl)) rfl
/-! ### the word -/

end
end NM
namespace NM
open PySem PySem.Spec PyProof.Rows L2
variable [Tbs]
section
variable {P : Program} {w : World} {K : PySem.W.Frag} {mg : Str → Option Value} {base : Heap}
abbrev N_Map___init__ : List Str := ["self", "size"]
theorem sc_Map___init__ : FnScope N_Map___init__ ["self"] (defScope (inClass (top 28) 0)) := ⟨rfl, rfl, rfl, by decide +kernel, rfl, by decide +kernel, by decide +kernel⟩
theorem ok_Map___init__ (D : Dm K "Map" "__init__" "Map.__init__" 28 0) (fr : Free mg) (cn : Cns K mg) (cf_Map_heads : CF K "Map" "heads") (cf_Map_points : CF K "Map" "points") : MethAt P w K mg base 1 (He.ga K "Map") "__init__" ["self"] (spM K U_Map___init__ (fun _ : Unit => []) er_Map___init__ (oRaw "Map") oMap 1) := by
  obtain ⟨f, fd, F, hm⟩ := D
  have nd := sc_Map___init__.nd
  refine meth_okM F sc_Map___init__ hm (fun _ _ _ _ _ _ us hl => match us, hl with | [_], _ => rfl) (by decide) (fun v0 m => [.ow (oAt v0 (oMap m)), .un]) (fun _ _ => rfl) (fun _ => rfl) fun cdv A outer s H E hr => ?_
  have tk := L2N.takes_of (X := cxOf (L2N.CX P w) P w K mg base N_Map___init__ "Map.__init__" (defScope (inClass (top 28) 0)) f cdv A outer s H E) (E := E) rfl rfl rfl rfl
  refine ⟨_, (pss_cons (ps_fld (pv 0) pe_dnewK rfl)
      (pss_cons (ps_fld (pv 0) (pe_lc (own := [("size", 1)]) rfl nd (pi_range1 rfl fr.range (pa_cons (pe_op op_add (pe_glob (v := .int 13) rfl cn.MOST_SIZE.choose_spec ⟨_, rfl⟩) pe_int) pa_nil)) (blkOk_by (N := N_Map___init__) (sc := (defScope (inClass (top 28) 0))) (by decide +kernel)) (fun _ _ _ _ _ => (pg_name (i := 1) nd rfl (by first | exact Or.inl rfl | exact Or.inr rfl))) (fun _ _ _ _ _ => pts_nil) (fun _ _ _ _ _ => pe_dnewK)) rfl)
      pss_nil)), fun _ a v0 B => ?_⟩
  try dsimp only [cxOf]
  change Sq K B _ _ [.ow (oAt v0 (oNd (mkI "Map" []) [])), .un] _ _ _
  show Sq K B _ _ _ _ _ (F_Map___init__ () ())
  unfold F_Map___init__
  refine so_attrN (f := "points") (i := 0) (on := (fun r : (List (Str × (Int × Int))) => oM ((eD (eP eI eI)) r))) cf_Map_points (by decide) (by decide) rfl rfl (ev_dnew) fun points => ?_
  change Sq K B _ _ [.ow (oAt v0 (oNd (mkI "Map" ["points"]) [oM ((eD (eP eI eI)) points)])), .un] _ _ _
  refine so_gd fun hc => ?_
  refine so_attrN (f := "heads") (i := 0) (on := (fun r : (List (List (Str × Str))) => oLs (List.map (fun r : (List (Str × Str)) => oM ((eD eS) r)) r))) cf_Map_heads (by decide) (by decide) rfl rfl (v_lcN (js := [1]) (fun size' => [eI size']) (fun r : (List (Str × Str)) => oM ((eD eS) r)) (fun size' : Int => ([] : (List (Str × Str)))) hc (EvF.i (w_range1 (by decide) (ea_cons (ev_add ev_int ev_int) ea_nil))) (fun _ _ => eg_name) (by decide) (fun size' hx => (ev_dnew))) fun heads => ?_
  change Sq K B _ _ [.ow (oAt v0 (oNd (mkI "Map" ["points", "heads"]) [oM ((eD (eP eI eI)) points), oLs (List.map (fun r : (List (Str × Str)) => oM ((eD eS) r)) heads)])), .un] _ _ _
  exact so_nx (.eq (.eq .nil))

abbrev N_Map_point : List Str := ["self", "name"]
theorem sc_Map_point : FnScope N_Map_point ["self", "name"] (defScope (inClass (top 28) 2)) := ⟨rfl, rfl, rfl, by decide +kernel, rfl, by decide +kernel, by decide +kernel⟩
theorem ok_Map_point (D : Dm K "Map" "point" "Map.point" 28 2) (ex : Exs K mg) (cf_Map_points : CF K "Map" "points") (g_need_name : FnAt P w K mg base 2 "need_name" ["thing"] (spX K (S_need (He.ga K "BadName") isName) 1)) : MethAt P w K mg base 3 (He.ga K "Map") "point" ["self", "name"] (spX K (SF U_Map_point en_Map_point er_Map_point K) 2) := by
  obtain ⟨f, fd, F, hm⟩ := D
  have nd := sc_Map_point.nd
  refine meth_okF F sc_Map_point hm (fun _ _ _ _ _ _ us hl => match us, hl with | [_, _], _ => rfl) (by decide) fun cdv A outer s H E hr => ?_
  have tk := L2N.takes_of (X := cxOf (L2N.CX P w) P w K mg base N_Map_point "Map.point" (defScope (inClass (top 28) 2)) f cdv A outer s H E) (E := E) rfl rfl rfl rfl
  refine ⟨_, (pss_cons (ps_expr (pe_fnS g_need_name hr (by decide) rfl tk (pa_cons (pv 1) pa_nil)))
      (pss_cons (ps_if (pt_cmp (pc_dnotin (hu_of hr) (pv 1) (pe_fld (pv 0) rfl)) rfl) (pss_cons (L2N.ps_raise rfl tk (L2N.pmk_own PySem.F.excBase_ValueError (ex.BadName).x (ex.BadName).g (ex.BadName).k (raises_own (ex.BadName).b (ex.BadName).t) rfl))
      pss_nil) pss_nil)
      (pss_cons (ps_ret (pe_dget (hu_of hr) (pe_fld (pv 0) rfl) (pv 1) (fun _ _ => rfl)))
      pss_nil))), fun rs res hl sp B => ?_⟩
  refine so_def (e0 := fun rs => rs.map toSl ++ List.replicate (N_Map_point.length - rs.length) Sl.un) (ek := fun _ => [.un, .un]) 2 sp (fun _ => trivial) fun a => ?_
  obtain ⟨self, name⟩ := a
  try dsimp only [cxOf]
  change Sq K B _ _ [.br (bMap self), .im (eA name)] _ _ _
  show Sq K B _ _ _ _ _ (F_Map_point self name)
  unfold F_Map_point
  refine so_gd fun hc => ?_
  refine so_need hc (ea_cons (ev_var (i := 1) rfl) ea_nil) (wk_rep rfl) ?_
  refine so_gd fun hc => ?_
  refine so_typed (f := eS) 1 rfl hc fun name => ?_
  change Sq K B _ _ [.br (bMap self), .im (eS name)] _ _ _
  refine so_ifX (et_B (v_dnin (ev_var (i := 1) rfl) (ev_bl (bMap_points_br cf_Map_points (ev_varR (i := 0) rfl))))) (fun hb => ?_) fun hb => ?_
  · exact so_raise (wk_rep rfl)
  · refine so_gd fun hc => ?_
    exact so_ret (v_dget (f := (eP eI eI)) hc (ev_bl (bMap_points_br cf_Map_points (ev_varR (i := 0) rfl))) (ev_var (i := 1) rfl)) rfl trivial (wk_rep rfl)

abbrev N_Map_join : List Str := ["self", "name", "size", "heads", "point", "near", "other", "least"]
theorem sc_Map_join : FnScope N_Map_join ["self", "name", "size"] (defScope (inClass (top 28) 4)) := ⟨rfl, rfl, rfl, by decide +kernel, rfl, by decide +kernel, by decide +kernel⟩
theorem ok_Map_join (D : Dm K "Map" "join" "Map.join" 28 4) (fr : Free mg) (cf_Map_heads : CF K "Map" "heads") (cf_Map_points : CF K "Map" "points") (g_apart : FnAt P w K mg base 1 "apart" ["one", "other"] (spX K S_apart 2)) (g_reach : FnAt P w K mg base 1 "reach" ["size"] (spX K S_reach 1)) : MethAt P w K mg base 2 (He.ga K "Map") "join" ["self", "name", "size"] (spM K U_Map_join en_Map_join er_Map_join oMap oMap 3) := by
  obtain ⟨f, fd, F, hm⟩ := D
  have nd := sc_Map_join.nd
  refine meth_okM F sc_Map_join hm (fun _ _ _ _ _ _ us hl => match us, hl with | [_, _, _], _ => rfl) (by decide) (fun v0 m => [.ow (oAt v0 (oMap m)), .un, .un, .un, .un, .un, .un, .un]) (fun _ _ => rfl) (fun _ => rfl) fun cdv A outer s H E hr => ?_
  have tk := L2N.takes_of (X := cxOf (L2N.CX P w) P w K mg base N_Map_join "Map.join" (defScope (inClass (top 28) 4)) f cdv A outer s H E) (E := E) rfl rfl rfl rfl
  refine ⟨_, (pss_cons (ps_set (i := 3) nd rfl (by first | exact Or.inl rfl | exact Or.inr rfl) (pe_ix ix_list (pe_fld (pv 0) rfl) (pv 2) (fun _ _ => rfl)))
      (pss_cons (ps_set (i := 4) nd rfl (by first | exact Or.inl rfl | exact Or.inr rfl) (pe_dget (hu_of hr) (pe_fld (pv 0) rfl) (pv 1) (fun _ _ => rfl)))
      (pss_cons (ps_set (i := 5) nd rfl (by first | exact Or.inl rfl | exact Or.inr rfl) pe_dnewK)
      (pss_cons (ps_lkX (fun W tk => (ps_for (passes_of rfl) rfl (pi_keys (pv 3)) (pg_name (i := 6) nd rfl (by first | exact Or.inl rfl | exact Or.inr rfl)) (pss_cons (ps_if (pt_cmpR op_le (pe_fn g_apart hr (by decide) rfl (pa_cons (pv 4) (pa_cons (pe_dget (hu_of hr) (pe_fld (pv 0) rfl) (pv 6) (fun _ _ => rfl)) pa_nil))) (pe_fn g_reach hr (by decide) rfl (pa_cons (pv 2) pa_nil)) (nomark _)) (pss_cons (ps_dput (hu_of hr) (pv 5) (pe_dget (hu_of hr) (pv 3) (pv 6) (fun _ _ => rfl)) pe_bl rfl)
      pss_nil) pss_nil)
      pss_nil))) tk)
      (pss_cons (ps_set (i := 7) nd rfl (by first | exact Or.inl rfl | exact Or.inr rfl) (pe_callB (cr_minG rfl hr.units) rfl fr.min (by decide +kernel) (pa_cons (pe_op op_cat (pe_lst (pa_cons (pv 1) pa_nil)) (pe_callTy (call_listD rfl) rfl fr.list (by decide +kernel) (pa_cons (pv 5) pa_nil))) pa_nil)))
      (pss_cons (ps_dput (hu_of hr) (pv 3) (pv 1) (pv 7) rfl)
      (pss_cons (ps_for (passes_of rfl) rfl (pi_list (pe_callTy (call_listD rfl) rfl fr.list (by decide +kernel) (pa_cons (pv 3) pa_nil))) (pg_name (i := 6) nd rfl (by first | exact Or.inl rfl | exact Or.inr rfl)) (pss_cons (ps_if (pt_cmp (pc_din (hu_of hr) (pe_dget (hu_of hr) (pv 3) (pv 6) (fun _ _ => rfl)) (pv 5)) rfl) (pss_cons (ps_dput (hu_of hr) (pv 3) (pv 6) (pv 7) rfl)
      pss_nil) pss_nil)
      pss_nil))
      pss_nil))))))), fun self a v0 B => ?_⟩
  obtain ⟨name, size⟩ := a
  try dsimp only [cxOf]
  change Sq K B _ _ [.ow (oAt v0 (oMap self)), .im (eS name), .im (eI size), .un, .un, .un, .un, .un] _ _ _
  show Sq K B _ _ _ _ _ (F_Map_join self name size)
  unfold F_Map_join
  refine so_gd fun hc => ?_
  refine so_lendH (i := 0) (j := 3) cf_Map_heads (by decide) rfl (ev_var (i := 2) rfl) hc fun at1 heads => ?_
  change Sq K B _ _ [.ow (oMapX v0 at1 (size).toNat self), .im (eS name), .im (eI size), .ow (oAt at1 (oM ((eD eS) heads))), .un, .un, .un, .un] _ _ _
  refine so_gd fun hc => ?_
  refine so_asg (i := 4) (eP eI eI) (v_dget (f := (eP eI eI)) hc (bMapP_points cf_Map_points (ev_see (i := 0) rfl oMapX_see)) (ev_var (i := 1) rfl)) fun point => ?_
  change Sq K B _ _ [.ow (oMapX v0 at1 (size).toNat self), .im (eS name), .im (eI size), .ow (oAt at1 (oM ((eD eS) heads))), .im ((eP eI eI) point), .un, .un, .un] _ _ _
  refine so_asgW (i := 5) (fun r : (List (Str × Bool)) => oM ((eD eB) r)) (ev_dnew) fun near => ?_
  change Sq K B _ _ [.ow (oMapX v0 at1 (size).toNat self), .im (eS name), .im (eI size), .ow (oAt at1 (oM ((eD eS) heads))), .im ((eP eI eI) point), .ow (oM ((eD eB) near)), .un, .un] _ _ _
  refine so_bind (ek1 := fun (near : (List (Str × Bool))) => [.ow (oMapX v0 at1 (size).toNat self), .im (eS name), .im (eI size), .ow (oAt at1 (oM ((eD eS) heads))), .im ((eP eI eI) point), .ow (oM ((eD eB) near)), .un, .un]) (so_wk (.eq (.eq (.eq (.eq (.eq (.eq (.eq (.eq .nil)))))))) (so_forKO (f := eS) (js := [6]) 3 (fun other => [eS other]) (fun _ => rfl) (fun _ => eg_name) (fun W od ks other hx near => ?_) rfl)) fun near => ?_
  · change Sq K B _ _ [.ow (oMapX v0 at1 (size).toNat self), .im (eS name), .im (eI size), .ow (oFz od at1 ks ((eD eS) heads)), .im ((eP eI eI) point), .ow (oM ((eD eB) near)), .im (eS other), .un] _ _ _
    refine so_gd fun hc => ?_
    refine so_bind (ek1 := fun (near : (List (Str × Bool))) => [.ow (oMapX v0 at1 (size).toNat self), .im (eS name), .im (eI size), .ow (oFz od at1 ks ((eD eS) heads)), .im ((eP eI eI) point), .ow (oM ((eD eB) near)), .im (eS other), .un]) (so_if (et_test (ev_le (ev_call (ea_cons (ev_var (i := 4) rfl) (ea_cons (v_dget (f := (eP eI eI)) hc.1 (bMapP_points cf_Map_points (ev_see (i := 0) rfl oMapX_see)) (ev_var (i := 6) rfl)) ea_nil)) flat2 (S_apart.mk point.1 point.2 ((kget (self).points other).getD default).1 ((kget (self).points other).getD default).2) trivial) (v_reach hc.2 (ea_cons (ev_var (i := 2) rfl) ea_nil)))) (fun hb => ?_) fun hb => ?_) fun near => ?_
    · refine so_gd fun hc => ?_
      refine so_dput (f := eB) 5 rfl ev_bool (v_dget (f := eS) hc.1 (ev_see (i := 3) rfl oFz_see) (ev_var (i := 6) rfl)) hc.2 fun near => ?_
      change Sq K B _ _ [.ow (oMapX v0 at1 (size).toNat self), .im (eS name), .im (eI size), .ow (oFz od at1 ks ((eD eS) heads)), .im ((eP eI eI) point), .ow (oM ((eD eB) near)), .im (eS other), .un] _ _ _
      exact so_nx (.eq (.eq (.eq (.eq (.eq (.eq (.eq (.eq .nil))))))))
    · exact so_nx (.eq (.eq (.eq (.eq (.eq (.eq (.eq (.eq .nil))))))))
    · change Sq K B _ _ [.ow (oMapX v0 at1 (size).toNat self), .im (eS name), .im (eI size), .ow (oFz od at1 ks ((eD eS) heads)), .im ((eP eI eI) point), .ow (oM ((eD eB) near)), .im (eS other), .un] _ _ _
      exact so_nx (.eq (.eq (.eq (.eq (.eq (.eq (.un (.eq .nil))))))))
  · change Sq K B _ _ [.ow (oMapX v0 at1 (size).toNat self), .im (eS name), .im (eI size), .ow (oAt at1 (oM ((eD eS) heads))), .im ((eP eI eI) point), .ow (oM ((eD eB) near)), .un, .un] _ _ _
    refine so_gd fun hc => ?_
    refine so_asg (i := 7) eS (v_minS hc.2 (ev_no (v_cat (f := eS) hc.1 (ev_no (v_lst (f := eS) (xs := [name]) (Nat.le_of_ble_eq_true rfl) (ea_cons (ev_var (i := 1) rfl) ea_nil))) (ev_no (v_listD (f := eB) (ev_varO (i := 5) rfl)))))) fun least => ?_
    change Sq K B _ _ [.ow (oMapX v0 at1 (size).toNat self), .im (eS name), .im (eI size), .ow (oAt at1 (oM ((eD eS) heads))), .im ((eP eI eI) point), .ow (oM ((eD eB) near)), .un, .im (eS least)] _ _ _
    refine so_gd fun hc => ?_
    refine so_dputF (f := eS) (env := [.ow (oMapX v0 at1 (size).toNat self), .im (eS name), .im (eI size), .ow (oAt at1 (oM ((eD eS) heads))), .im ((eP eI eI) point), .ow (oM ((eD eB) near)), .un, .im (eS least)]) (g := fun z : (List (Str × Str)) => z) (Foc.unpin (Foc.var (i := 3) (ob := (fun z : (List (Str × Str)) => oAt at1 (oM ((eD eS) z)))) (b := heads) rfl)) (ev_var (i := 7) rfl) (ev_var (i := 1) rfl) hc fun heads => ?_
    change Sq K B _ _ [.ow (oMapX v0 at1 (size).toNat self), .im (eS name), .im (eI size), .ow (oAt at1 (oM ((eD eS) heads))), .im ((eP eI eI) point), .ow (oM ((eD eB) near)), .un, .im (eS least)] _ _ _
    refine so_bind (ek1 := fun (heads : (List (Str × Str))) => [.ow (oMapX v0 at1 (size).toNat self), .im (eS name), .im (eI size), .ow (oAt at1 (oM ((eD eS) heads))), .im ((eP eI eI) point), .ow (oM ((eD eB) near)), .un, .im (eS least)]) (so_wk (.eq (.eq (.eq (.eq (.eq (.eq (.eq (.eq .nil)))))))) (so_for (js := [6]) eS (fun other => [eS other]) (EvF.w (ef_list (ev_im (v_listD (f := eS) (ev_see (i := 3) rfl (oAt_see oM_see)))))) (fun _ _ => eg_name) (fun other hx heads => ?_) rfl)) fun heads => ?_
    · change Sq K B _ _ [.ow (oMapX v0 at1 (size).toNat self), .im (eS name), .im (eI size), .ow (oAt at1 (oM ((eD eS) heads))), .im ((eP eI eI) point), .ow (oM ((eD eB) near)), .im (eS other), .im (eS least)] _ _ _
      refine so_gd fun hc => ?_
      refine so_bind (ek1 := fun (heads : (List (Str × Str))) => [.ow (oMapX v0 at1 (size).toNat self), .im (eS name), .im (eI size), .ow (oAt at1 (oM ((eD eS) heads))), .im ((eP eI eI) point), .ow (oM ((eD eB) near)), .im (eS other), .im (eS least)]) (so_if (et_B (v_din (v_dget (f := eS) hc (ev_see (i := 3) rfl (oAt_see oM_see)) (ev_var (i := 6) rfl)) (ev_varO (i := 5) rfl))) (fun hb => ?_) fun hb => ?_) fun heads => ?_
      · refine so_gd fun hc => ?_
        refine so_dputF (f := eS) (env := [.ow (oMapX v0 at1 (size).toNat self), .im (eS name), .im (eI size), .ow (oAt at1 (oM ((eD eS) heads))), .im ((eP eI eI) point), .ow (oM ((eD eB) near)), .im (eS other), .im (eS least)]) (g := fun z : (List (Str × Str)) => z) (Foc.unpin (Foc.var (i := 3) (ob := (fun z : (List (Str × Str)) => oAt at1 (oM ((eD eS) z)))) (b := heads) rfl)) (ev_var (i := 7) rfl) (ev_var (i := 6) rfl) hc fun heads => ?_
        change Sq K B _ _ [.ow (oMapX v0 at1 (size).toNat self), .im (eS name), .im (eI size), .ow (oAt at1 (oM ((eD eS) heads))), .im ((eP eI eI) point), .ow (oM ((eD eB) near)), .im (eS other), .im (eS least)] _ _ _
        exact so_nx (.eq (.eq (.eq (.eq (.eq (.eq (.eq (.eq .nil))))))))
      · exact so_nx (.eq (.eq (.eq (.eq (.eq (.eq (.eq (.eq .nil))))))))
      · change Sq K B _ _ [.ow (oMapX v0 at1 (size).toNat self), .im (eS name), .im (eI size), .ow (oAt at1 (oM ((eD eS) heads))), .im ((eP eI eI) point), .ow (oM ((eD eB) near)), .im (eS other), .im (eS least)] _ _ _
        exact so_nx (.eq (.eq (.eq (.eq (.eq (.eq (.un (.eq .nil))))))))
    · change Sq K B _ _ [.ow (oMapX v0 at1 (size).toNat self), .im (eS name), .im (eI size), .ow (oAt at1 (oM ((eD eS) heads))), .im ((eP eI eI) point), .ow (oM ((eD eB) near)), .un, .im (eS least)] _ _ _
      refine so_backH 0 3 (by decide) rfl rfl fun self => ?_
      change Sq K B _ _ [.ow (oAt v0 (oMap self)), .im (eS name), .im (eI size), .un, .im ((eP eI eI) point), .ow (oM ((eD eB) near)), .un, .im (eS least)] _ _ _
      exact so_nx (.eq (.un (.un (.eq (.un (.un (.eq (.un .nil))))))))

abbrev N_Map_put : List Str := ["self", "name", "point", "size"]
theorem sc_Map_put : FnScope N_Map_put ["self", "name", "point"] (defScope (inClass (top 28) 3)) := ⟨rfl, rfl, rfl, by decide +kernel, rfl, by decide +kernel, by decide +kernel⟩
theorem ok_Map_put (D : Dm K "Map" "put" "Map.put" 28 3) (fr : Free mg) (cn : Cns K mg) (ex : Exs K mg) (cf_Map_points : CF K "Map" "points") (g_need_name : FnAt P w K mg base 2 "need_name" ["thing"] (spX K (S_need (He.ga K "BadName") isName) 1)) (g_need_point : FnAt P w K mg base 2 "need_point" ["thing"] (spX K (S_need (He.ga K "BadPoint") isPoint) 1)) (m_Map_join : MethAt P w K mg base 2 (He.ga K "Map") "join" ["self", "name", "size"] (spM K U_Map_join en_Map_join er_Map_join oMap oMap 3)) : MethAt P w K mg base 3 (He.ga K "Map") "put" ["self", "name", "point"] (spM K U_Map_put en_Map_put er_Map_put oMap oMap 3) := by
  obtain ⟨f, fd, F, hm⟩ := D
  have nd := sc_Map_put.nd
  refine meth_okM F sc_Map_put hm (fun _ _ _ _ _ _ us hl => match us, hl with | [_, _, _], _ => rfl) (by decide) (fun v0 m => [.ow (oAt v0 (oMap m)), .un, .un, .un]) (fun _ _ => rfl) (fun _ => rfl) fun cdv A outer s H E hr => ?_
  have tk := L2N.takes_of (X := cxOf (L2N.CX P w) P w K mg base N_Map_put "Map.put" (defScope (inClass (top 28) 3)) f cdv A outer s H E) (E := E) rfl rfl rfl rfl
  refine ⟨_, (pss_cons (ps_expr (pe_fnS g_need_name hr (by decide) rfl tk (pa_cons (pv 1) pa_nil)))
      (pss_cons (ps_if (PW.pt (pw_or (pt_cmp (pc_din (hu_of hr) (pv 1) (pe_fld (pv 0) rfl)) rfl) (pw_or1 (pt_cmpR op_ge (pe_callB call_lenR rfl fr.len (by decide +kernel) (pa_cons (pe_fld (pv 0) rfl) pa_nil)) (pe_glob (v := .int 60) rfl cn.MOST_MARKS.choose_spec ⟨_, rfl⟩) (nomark _))))) (pss_cons (L2N.ps_raise rfl tk (L2N.pmk_own PySem.F.excBase_ValueError (ex.BadName).x (ex.BadName).g (ex.BadName).k (raises_own (ex.BadName).b (ex.BadName).t) rfl))
      pss_nil) pss_nil)
      (pss_cons (ps_expr (pe_fnS g_need_point hr (by decide) rfl tk (pa_cons (pv 2) pa_nil)))
      (pss_cons (ps_dput (hu_of hr) (pe_fld (pv 0) rfl) (pv 1) (pv 2) rfl)
      (pss_cons (ps_for (passes_of rfl) rfl (pi_range1 rfl fr.range (pa_cons (pe_op op_add (pe_glob (v := .int 13) rfl cn.MOST_SIZE.choose_spec ⟨_, rfl⟩) pe_int) pa_nil)) (pg_name (i := 3) nd rfl (by first | exact Or.inl rfl | exact Or.inr rfl)) (pss_cons (ps_expr (pe_mtE m_Map_join hr (by decide) cf_Map_points.c (fun σ => passAt0 σ) (pv 0) (pa_cons (pv 1) (pa_cons (pv 3) pa_nil))))
      pss_nil))
      pss_nil))))), fun self a v0 B => ?_⟩
  obtain ⟨name, point⟩ := a
  try dsimp only [cxOf]
  change Sq K B _ _ [.ow (oAt v0 (oMap self)), .im (eA name), .im (eA point), .un] _ _ _
  show Sq K B _ _ _ _ _ (F_Map_put self name point)
  unfold F_Map_put
  refine so_gd fun hc => ?_
  refine so_need hc (ea_cons (ev_var (i := 1) rfl) ea_nil) (.eq (wk_rep rfl)) ?_
  refine so_gd fun hc => ?_
  refine so_typed (f := eS) 1 rfl hc fun name => ?_
  change Sq K B _ _ [.ow (oAt v0 (oMap self)), .im (eS name), .im (eA point), .un] _ _ _
  refine so_ifX (et_or (et_B (v_din (ev_var (i := 1) rfl) (bMap_points cf_Map_points (ev_see (i := 0) rfl (oAt_see (oMap_see _)))))) fun z => (et_test (ev_ge (v_lenD (f := (eP eI eI)) (bMap_points cf_Map_points (ev_see (i := 0) rfl (oAt_see (oMap_see _))))) ev_int))) (fun hb => ?_) fun hb => ?_
  · exact so_raise (.eq (wk_rep rfl))
  · refine so_gd fun hc => ?_
    refine so_need hc (ea_cons (ev_var (i := 2) rfl) ea_nil) (.eq (wk_rep rfl)) ?_
    refine so_gd fun hc => ?_
    refine so_typed (f := (eP eI eI)) 2 rfl hc fun point => ?_
    change Sq K B _ _ [.ow (oAt v0 (oMap self)), .im (eS name), .im ((eP eI eI) point), .un] _ _ _
    refine so_gd fun hc => ?_
    refine so_dputF (f := (eP eI eI)) (env := [.ow (oAt v0 (oMap self)), .im (eS name), .im ((eP eI eI) point), .un]) (g := fun z : (List (Str × (Int × Int))) => { self with points := z }) (Foc.points cf_Map_points (Foc.unpin (Foc.var (i := 0) (ob := (fun z : PMap => oAt v0 (oMap z))) (b := self) rfl))) (ev_var (i := 2) rfl) (ev_var (i := 1) rfl) hc fun self => ?_
    change Sq K B _ _ [.ow (oAt v0 (oMap self)), .im (eS name), .im ((eP eI eI) point), .un] _ _ _
    refine so_bind (ek1 := fun (self : PMap) => [.ow (oAt v0 (oMap self)), .im (eS name), .im ((eP eI eI) point), .un]) (so_wk (.eq (.eq (.eq (.eq .nil)))) (so_for (js := [3]) eI (fun size => [eI size]) (EvF.w (w_range1 (by decide) (ea_cons (ev_add ev_int ev_int) ea_nil))) (fun _ _ => eg_name) (fun size hx self => ?_) rfl)) fun self => ?_
    · change Sq K B _ _ [.ow (oAt v0 (oMap self)), .im (eS name), .im ((eP eI eI) point), .im (eI size)] _ _ _
      refine so_gd fun hc => ?_
      refine so_callMR (Fn := U_Map_join) (en := en_Map_join) (er' := er_Map_join) (env := [.ow (oAt v0 (oMap self)), .im (eS name), .im ((eP eI eI) point), .im (eI size)]) (g := fun z : PMap => z) (Foc.unpin (Foc.var (i := 0) (ob := (fun z : PMap => oAt v0 (oMap z))) (b := self) rfl)) (objC_map (by decide)) (name, size) hc (ea_cons (ev_var (i := 1) rfl) (ea_cons (ev_var (i := 3) rfl) ea_nil)) rfl fun self => ?_
      change Sq K B _ _ [.ow (oAt v0 (oMap self)), .im (eS name), .im ((eP eI eI) point), .im (eI size)] _ _ _
      exact so_nx (.eq (.eq (.eq (.un .nil))))
    · change Sq K B _ _ [.ow (oAt v0 (oMap self)), .im (eS name), .im ((eP eI eI) point), .un] _ _ _
      exact so_nx (.eq (.un (.un (.eq .nil))))

abbrev N_Map_names_at : List Str := ["self", "head", "size", "heads", "name"]
theorem sc_Map_names_at : FnScope N_Map_names_at ["self", "head", "size"] (defScope (inClass (top 28) 7)) := ⟨rfl, rfl, rfl, by decide +kernel, rfl, by decide +kernel, by decide +kernel⟩
theorem ok_Map_names_at (D : Dm K "Map" "names_at" "Map.names_at" 28 7) (fr : Free mg) (ex : Exs K mg) (cf_Map_heads : CF K "Map" "heads") (g_need_name : FnAt P w K mg base 2 "need_name" ["thing"] (spX K (S_need (He.ga K "BadName") isName) 1)) (g_need_size : FnAt P w K mg base 2 "need_size" ["thing"] (spX K (S_need (He.ga K "BadSize") isSize) 1)) : MethAt P w K mg base 3 (He.ga K "Map") "names_at" ["self", "head", "size"] (spX K (SF U_Map_names_at en_Map_names_at er_Map_names_at K) 3) := by
  obtain ⟨f, fd, F, hm⟩ := D
  have nd := sc_Map_names_at.nd
  refine meth_okF F sc_Map_names_at hm (fun _ _ _ _ _ _ us hl => match us, hl with | [_, _, _], _ => rfl) (by decide) fun cdv A outer s H E hr => ?_
  have tk := L2N.takes_of (X := cxOf (L2N.CX P w) P w K mg base N_Map_names_at "Map.names_at" (defScope (inClass (top 28) 7)) f cdv A outer s H E) (E := E) rfl rfl rfl rfl
  refine ⟨_, (pss_cons (ps_expr (pe_fnS g_need_name hr (by decide) rfl tk (pa_cons (pv 1) pa_nil)))
      (pss_cons (ps_expr (pe_fnS g_need_size hr (by decide) rfl tk (pa_cons (pv 2) pa_nil)))
      (pss_cons (ps_set (i := 3) nd rfl (by first | exact Or.inl rfl | exact Or.inr rfl) (pe_ix ix_list (pe_fld (pv 0) rfl) (pv 2) (fun _ _ => rfl)))
      (pss_cons (ps_if (PW.pt (pw_or (pt_cmp (pc_dnotin (hu_of hr) (pv 1) (pv 3)) rfl) (pw_or1 (pt_cmpR op_ne (pe_dget (hu_of hr) (pv 3) (pv 1) (fun _ _ => rfl)) (pv 1) (nomark _))))) (pss_cons (L2N.ps_raise rfl tk (L2N.pmk_own PySem.F.excBase_ValueError (ex.BadHeap).x (ex.BadHeap).g (ex.BadHeap).k (raises_own (ex.BadHeap).b (ex.BadHeap).t) rfl))
      pss_nil) pss_nil)
      (pss_cons (ps_ret (pe_callB (cr_sortedG hr.units) rfl fr.sorted (by decide +kernel) (pa_cons (pe_lk (pe_lc (own := [("name", 4)]) rfl nd (pi_keys (pv 3)) (blkOk_by (N := N_Map_names_at) (sc := (defScope (inClass (top 28) 7))) (by decide +kernel)) (fun _ _ _ _ _ => (pg_name (i := 4) nd rfl (by first | exact Or.inl rfl | exact Or.inr rfl))) (fun _ _ _ _ _ => (pts_one (pt_cmpR op_eq (pe_dget (hu_of hr) (pv 3) (pv 4) (fun _ _ => rfl)) (pv 1) (nomark _)))) (fun _ _ _ _ _ => (pv 4)))) pa_nil)))
      pss_nil))))), fun rs res hl sp B => ?_⟩
  refine so_def (e0 := fun rs => rs.map toSl ++ List.replicate (N_Map_names_at.length - rs.length) Sl.un) (ek := fun _ => [.un, .un, .un, .un, .un]) 5 sp (fun _ => trivial) fun a => ?_
  obtain ⟨self, head, size⟩ := a
  try dsimp only [cxOf]
  change Sq K B _ _ [.br (bMap self), .im (eA head), .im (eA size), .un, .un] _ _ _
  show Sq K B _ _ _ _ _ (F_Map_names_at self head size)
  unfold F_Map_names_at
  refine so_gd fun hc => ?_
  refine so_need hc (ea_cons (ev_var (i := 1) rfl) ea_nil) (wk_rep rfl) ?_
  refine so_gd fun hc => ?_
  refine so_typed (f := eS) 1 rfl hc fun head => ?_
  change Sq K B _ _ [.br (bMap self), .im (eS head), .im (eA size), .un, .un] _ _ _
  refine so_gd fun hc => ?_
  refine so_need hc (ea_cons (ev_var (i := 2) rfl) ea_nil) (wk_rep rfl) ?_
  refine so_gd fun hc => ?_
  refine so_typed (f := eI) 2 rfl hc fun size => ?_
  change Sq K B _ _ [.br (bMap self), .im (eS head), .im (eI size), .un, .un] _ _ _
  refine so_gd fun hc => ?_
  refine so_asgB (i := 3) (fun r => oB ((eD eS) r)) (v_ixOB (g := (fun r : (List (Str × Str)) => oB ((eD eS) r))) hc (bMap_heads_br cf_Map_heads (ev_varR (i := 0) rfl)) (ev_var (i := 2) rfl)) fun heads => ?_
  change Sq K B _ _ [.br (bMap self), .im (eS head), .im (eI size), .br (oB ((eD eS) heads)), .un] _ _ _
  refine so_gd fun hc => ?_
  refine so_ifX (et_or (et_B (v_dnin (ev_var (i := 1) rfl) (ev_bl (ev_varR (i := 3) rfl)))) fun z => (et_test (ev_neS (v_dget (f := eS) (hc z) (ev_bl (ev_varR (i := 3) rfl)) (ev_var (i := 1) rfl)) (ev_var (i := 1) rfl)))) (fun hb => ?_) fun hb => ?_
  · exact so_raise (wk_rep rfl)
  · refine so_gd fun hc => ?_
    exact so_ret (ev_im (v_sortedS hc.2.2 (ev_no (v_lcK (f := eS) (g := eS) (dvs := []) (js := [4]) (fun name' => [eS name']) (fun name' : Str => (decide (((kget heads name').getD default) = head))) (fun name' : Str => name') hc.1 (EvD.z (ed_varB (i := 3) rfl)) (fun _ _ => eg_name) (by decide) (fun name' hx => (et_test (ev_eqS (v_dget (f := eS) (hc.2.1 name' hx) (ev_bl (ev_varR (i := 3) rfl)) (ev_var (i := 4) rfl)) (ev_var (i := 1) rfl)))) (fun name' hx ht => (ev_var (i := 4) rfl)))))) rfl trivial (wk_rep rfl)

abbrev N_Map_heaps : List Str := ["self", "size", "heads", "name"]
theorem sc_Map_heaps : FnScope N_Map_heaps ["self", "size"] (defScope (inClass (top 28) 8)) := ⟨rfl, rfl, rfl, by decide +kernel, rfl, by decide +kernel, by decide +kernel⟩
theorem ok_Map_heaps (D : Dm K "Map" "heaps" "Map.heaps" 28 8) (fr : Free mg) (cf_Map_heads : CF K "Map" "heads") (g_need_size : FnAt P w K mg base 2 "need_size" ["thing"] (spX K (S_need (He.ga K "BadSize") isSize) 1)) : MethAt P w K mg base 3 (He.ga K "Map") "heaps" ["self", "size"] (spX K (SF U_Map_heaps en_Map_heaps er_Map_heaps K) 2) := by
  obtain ⟨f, fd, F, hm⟩ := D
  have nd := sc_Map_heaps.nd
  refine meth_okF F sc_Map_heaps hm (fun _ _ _ _ _ _ us hl => match us, hl with | [_, _], _ => rfl) (by decide) fun cdv A outer s H E hr => ?_
  have tk := L2N.takes_of (X := cxOf (L2N.CX P w) P w K mg base N_Map_heaps "Map.heaps" (defScope (inClass (top 28) 8)) f cdv A outer s H E) (E := E) rfl rfl rfl rfl
  refine ⟨_, (pss_cons (ps_expr (pe_fnS g_need_size hr (by decide) rfl tk (pa_cons (pv 1) pa_nil)))
      (pss_cons (ps_set (i := 2) nd rfl (by first | exact Or.inl rfl | exact Or.inr rfl) (pe_ix ix_list (pe_fld (pv 0) rfl) (pv 1) (fun _ _ => rfl)))
      (pss_cons (ps_ret (pe_callB (cr_sortedG hr.units) rfl fr.sorted (by decide +kernel) (pa_cons (pe_lk (pe_lc (own := [("name", 3)]) rfl nd (pi_keys (pv 2)) (blkOk_by (N := N_Map_heaps) (sc := (defScope (inClass (top 28) 8))) (by decide +kernel)) (fun _ _ _ _ _ => (pg_name (i := 3) nd rfl (by first | exact Or.inl rfl | exact Or.inr rfl))) (fun _ _ _ _ _ => (pts_one (pt_cmpR op_eq (pe_dget (hu_of hr) (pv 2) (pv 3) (fun _ _ => rfl)) (pv 3) (nomark _)))) (fun _ _ _ _ _ => (pv 3)))) pa_nil)))
      pss_nil))), fun rs res hl sp B => ?_⟩
  refine so_def (e0 := fun rs => rs.map toSl ++ List.replicate (N_Map_heaps.length - rs.length) Sl.un) (ek := fun _ => [.un, .un, .un, .un]) 4 sp (fun _ => trivial) fun a => ?_
  obtain ⟨self, size⟩ := a
  try dsimp only [cxOf]
  change Sq K B _ _ [.br (bMap self), .im (eA size), .un, .un] _ _ _
  show Sq K B _ _ _ _ _ (F_Map_heaps self size)
  unfold F_Map_heaps
  refine so_gd fun hc => ?_
  refine so_need hc (ea_cons (ev_var (i := 1) rfl) ea_nil) (wk_rep rfl) ?_
  refine so_gd fun hc => ?_
  refine so_typed (f := eI) 1 rfl hc fun size => ?_
  change Sq K B _ _ [.br (bMap self), .im (eI size), .un, .un] _ _ _
  refine so_gd fun hc => ?_
  refine so_asgB (i := 2) (fun r => oB ((eD eS) r)) (v_ixOB (g := (fun r : (List (Str × Str)) => oB ((eD eS) r))) hc (bMap_heads_br cf_Map_heads (ev_varR (i := 0) rfl)) (ev_var (i := 1) rfl)) fun heads => ?_
  change Sq K B _ _ [.br (bMap self), .im (eI size), .br (oB ((eD eS) heads)), .un] _ _ _
  refine so_gd fun hc => ?_
  exact so_ret (ev_im (v_sortedS hc.2.2 (ev_no (v_lcK (f := eS) (g := eS) (dvs := []) (js := [3]) (fun name' => [eS name']) (fun name' : Str => (decide (((kget heads name').getD default) = name'))) (fun name' : Str => name') hc.1 (EvD.z (ed_varB (i := 2) rfl)) (fun _ _ => eg_name) (by decide) (fun name' hx => (et_test (ev_eqS (v_dget (f := eS) (hc.2.1 name' hx) (ev_bl (ev_varR (i := 2) rfl)) (ev_var (i := 3) rfl)) (ev_var (i := 3) rfl)))) (fun name' hx ht => (ev_var (i := 3) rfl)))))) rfl trivial (wk_rep rfl)

abbrev N_Map_names : List Str := ["self", "head", "size"]
theorem sc_Map_names : FnScope N_Map_names ["self", "head", "size"] (defScope (inClass (top 28) 11)) := ⟨rfl, rfl, rfl, by decide +kernel, rfl, by decide +kernel, by decide +kernel⟩
theorem ok_Map_names (D : Dm K "Map" "names" "Map.names" 28 11) (cf_Map_points : CF K "Map" "points") (m_Map_names_at : MethAt P w K mg base 3 (He.ga K "Map") "names_at" ["self", "head", "size"] (spX K (SF U_Map_names_at en_Map_names_at er_Map_names_at K) 3)) : MethAt P w K mg base 4 (He.ga K "Map") "names" ["self", "head", "size"] (spX K (SF U_Map_names en_Map_names er_Map_names K) 3) := by
  obtain ⟨f, fd, F, hm⟩ := D
  have nd := sc_Map_names.nd
  refine meth_okF F sc_Map_names hm (fun _ _ _ _ _ _ us hl => match us, hl with | [_, _, _], _ => rfl) (by decide) fun cdv A outer s H E hr => ?_
  have tk := L2N.takes_of (X := cxOf (L2N.CX P w) P w K mg base N_Map_names "Map.names" (defScope (inClass (top 28) 11)) f cdv A outer s H E) (E := E) rfl rfl rfl rfl
  refine ⟨_, (pss_cons (ps_ret (pe_mtE m_Map_names_at hr (by decide) cf_Map_points.c (fun σ => L2N.passAt tk σ) (pv 0) (pa_cons (pv 1) (pa_cons (pv 2) pa_nil))))
      pss_nil), fun rs res hl sp B => ?_⟩
  refine so_def (e0 := fun rs => rs.map toSl ++ List.replicate (N_Map_names.length - rs.length) Sl.un) (ek := fun _ => [.un, .un, .un]) 3 sp (fun _ => trivial) fun a => ?_
  obtain ⟨self, head, size⟩ := a
  try dsimp only [cxOf]
  change Sq K B _ _ [.br (bMap self), .im (eA head), .im (eA size)] _ _ _
  show Sq K B _ _ _ _ _ (F_Map_names self head size)
  unfold F_Map_names
  exact so_retMeth (F := U_Map_names_at) (en := en_Map_names_at) (er' := er_Map_names_at) (self, head, size) (objB_map (by decide)) rfl (k := fun r => r) (fun _ => rfl) (fun _ => trivial) (ev_bl (ev_varR (i := 0) rfl)) (ea_cons (ev_var (i := 1) rfl) (ea_cons (ev_var (i := 2) rfl) ea_nil)) (fl_Map_names_at _) rfl (wk_rep rfl) (fun _ => (wk_rep rfl))

abbrev N_Map_opened : List Str := ["self", "head", "size", "names", "less", "heads", "rows", "name"]
theorem sc_Map_opened : FnScope N_Map_opened ["self", "head", "size"] (defScope (inClass (top 28) 14)) := ⟨rfl, rfl, rfl, by decide +kernel, rfl, by decide +kernel, by decide +kernel⟩
theorem ok_Map_opened (D : Dm K "Map" "opened" "Map.opened" 28 14) (fr : Free mg) (cf_Map_heads : CF K "Map" "heads") (cf_Map_points : CF K "Map" "points") (m_Map_names_at : MethAt P w K mg base 3 (He.ga K "Map") "names_at" ["self", "head", "size"] (spX K (SF U_Map_names_at en_Map_names_at er_Map_names_at K) 3)) : MethAt P w K mg base 5 (He.ga K "Map") "opened" ["self", "head", "size"] (spX K (SF U_Map_opened en_Map_opened er_Map_opened K) 3) := by
  obtain ⟨f, fd, F, hm⟩ := D
  have nd := sc_Map_opened.nd
  refine meth_okF F sc_Map_opened hm (fun _ _ _ _ _ _ us hl => match us, hl with | [_, _, _], _ => rfl) (by decide) fun cdv A outer s H E hr => ?_
  have tk := L2N.takes_of (X := cxOf (L2N.CX P w) P w K mg base N_Map_opened "Map.opened" (defScope (inClass (top 28) 14)) f cdv A outer s H E) (E := E) rfl rfl rfl rfl
  refine ⟨_, (pss_cons (ps_set (i := 3) nd rfl (by first | exact Or.inl rfl | exact Or.inr rfl) (pe_mtE m_Map_names_at hr (by decide) cf_Map_points.c (fun σ => L2N.passAt tk σ) (pv 0) (pa_cons (pv 1) (pa_cons (pv 2) pa_nil))))
      (pss_cons (ps_set (i := 4) nd rfl (by first | exact Or.inl rfl | exact Or.inr rfl) (pv 2))
      (pss_cons (ps_while (passes_of rfl) (pt_cmpR op_gt (pv 4) pe_int (nomark _)) (pss_cons (ps_set (i := 4) nd rfl (by first | exact Or.inl rfl | exact Or.inr rfl) (pe_op op_sub (pv 4) pe_int))
      (pss_cons (ps_set (i := 5) nd rfl (by first | exact Or.inl rfl | exact Or.inr rfl) (pe_ix ix_list (pe_fld (pv 0) rfl) (pv 4) (fun _ _ => rfl)))
      (pss_cons (ps_set (i := 6) nd rfl (by first | exact Or.inl rfl | exact Or.inr rfl) (pe_callB (cr_sortedG hr.units) rfl fr.sorted (by decide +kernel) (pa_cons (pe_lc (own := [("name", 7)]) rfl nd (pi_list (pv 3)) (blkOk_by (N := N_Map_opened) (sc := (defScope (inClass (top 28) 14))) (by decide +kernel)) (fun _ _ _ _ _ => (pg_name (i := 7) nd rfl (by first | exact Or.inl rfl | exact Or.inr rfl))) (fun _ _ _ _ _ => (pts_one (pt_cmpR op_eq (pe_dget (hu_of hr) (pv 5) (pv 7) (fun _ _ => rfl)) (pv 7) (nomark _)))) (fun _ _ _ _ _ => (pv 7))) pa_nil)))
      (pss_cons (ps_if (pt_cmpR op_gt (pe_callB call_len rfl fr.len (by decide +kernel) (pa_cons (pv 6) pa_nil)) pe_int (nomark _)) (pss_cons (ps_ret (pe_tup (pa_cons (pv 4) (pa_cons (pv 6) pa_nil))))
      pss_nil) pss_nil)
      pss_nil)))))
      (pss_cons (ps_ret (pe_tup (pa_cons pe_int (pa_cons (pe_lst (pa_cons (pv 1) pa_nil)) pa_nil))))
      pss_nil)))), fun rs res hl sp B => ?_⟩
  refine so_def (e0 := fun rs => rs.map toSl ++ List.replicate (N_Map_opened.length - rs.length) Sl.un) (ek := fun _ => [.un, .un, .un, .un, .un, .un, .un, .un]) 8 sp (fun _ => trivial) fun a => ?_
  obtain ⟨self, head, size⟩ := a
  try dsimp only [cxOf]
  change Sq K B _ _ [.br (bMap self), .im (eA head), .im (eA size), .un, .un, .un, .un, .un] _ _ _
  show Sq K B _ _ _ _ _ (F_Map_opened self head size)
  unfold F_Map_opened
  refine so_asgMeth (i := 3) (F := U_Map_names_at) (en := en_Map_names_at) (er' := er_Map_names_at) (enr := (eL eS)) (self, head, size) (objB_map (by decide)) rfl (fun _ => rfl) (ev_bl (ev_varR (i := 0) rfl)) (ea_cons (ev_var (i := 1) rfl) (ea_cons (ev_var (i := 2) rfl) ea_nil)) (fl_Map_names_at _) rfl (wk_rep rfl) fun names => ?_
  change Sq K B _ _ [.br (bMap self), .im (eA head), .im (eA size), .im ((eL eS) names), .un, .un, .un, .un] _ _ _
  refine so_gd fun hc => ?_
  refine so_typed (f := eS) 1 rfl hc fun head => ?_
  change Sq K B _ _ [.br (bMap self), .im (eS head), .im (eA size), .im ((eL eS) names), .un, .un, .un, .un] _ _ _
  refine so_gd fun hc => ?_
  refine so_typed (f := eI) 2 rfl hc fun size => ?_
  change Sq K B _ _ [.br (bMap self), .im (eS head), .im (eI size), .im ((eL eS) names), .un, .un, .un, .un] _ _ _
  refine so_asg (i := 4) eI (ev_var (i := 2) rfl) fun less => ?_
  change Sq K B _ _ [.br (bMap self), .im (eS head), .im (eI size), .im ((eL eS) names), .im (eI less), .un, .un, .un] _ _ _
  refine so_bind (ek1 := fun (less : Int) => [.br (bMap self), .im (eS head), .im (eI size), .im ((eL eS) names), .im (eI less), .un, .un, .un]) (so_wk (.eq (.eq (.eq (.eq (.eq (.eq (.eq (.eq .nil)))))))) (so_while (fun less hc => ?_) (fun less hp hb => ?_) rfl)) fun less => ?_
  · exact (et_test (ev_gt (ev_var (i := 4) rfl) ev_int))
  · change Sq K B _ _ [.br (bMap self), .im (eS head), .im (eI size), .im ((eL eS) names), .im (eI less), .un, .un, .un] _ _ _
    refine so_asg (i := 4) eI (ev_sub (ev_var (i := 4) rfl) ev_int) fun less => ?_
    change Sq K B _ _ [.br (bMap self), .im (eS head), .im (eI size), .im ((eL eS) names), .im (eI less), .un, .un, .un] _ _ _
    refine so_gd fun hc => ?_
    refine so_asgB (i := 5) (fun r => oB ((eD eS) r)) (v_ixOB (g := (fun r : (List (Str × Str)) => oB ((eD eS) r))) hc (bMap_heads_br cf_Map_heads (ev_varR (i := 0) rfl)) (ev_var (i := 4) rfl)) fun heads => ?_
    change Sq K B _ _ [.br (bMap self), .im (eS head), .im (eI size), .im ((eL eS) names), .im (eI less), .br (oB ((eD eS) heads)), .un, .un] _ _ _
    refine so_gd fun hc => ?_
    refine so_asg (i := 6) (eL eS) (ev_im (v_sortedS hc.2.2 (ev_no (v_lc (f := eS) (g := eS) (js := [7]) (fun name' => [eS name']) (fun name' : Str => (decide (((kget heads name').getD default) = name'))) (fun name' : Str => name') hc.1 (ei_list (ev_ob (ev_var (i := 3) rfl))) (fun _ _ => eg_name) (by decide) (fun name' hx => (et_test (ev_eqS (v_dget (f := eS) (hc.2.1 name' hx) (ev_bl (ev_varR (i := 5) rfl)) (ev_var (i := 7) rfl)) (ev_var (i := 7) rfl)))) (fun name' hx ht => (ev_var (i := 7) rfl)))))) fun rows => ?_
    change Sq K B _ _ [.br (bMap self), .im (eS head), .im (eI size), .im ((eL eS) names), .im (eI less), .br (oB ((eD eS) heads)), .im ((eL eS) rows), .un] _ _ _
    refine so_ifX (et_test (ev_gt (v_len (f := eS) (ev_ob (ev_var (i := 6) rfl))) ev_int)) (fun hb => ?_) fun hb => ?_
    · exact so_ret (v_pair (ev_var (i := 4) rfl) (ev_var (i := 6) rfl)) rfl trivial (wk_rep rfl)
    · exact so_nx (.eq (.eq (.eq (.eq (.eq (.un (.un (.eq .nil))))))))
  · change Sq K B _ _ [.br (bMap self), .im (eS head), .im (eI size), .im ((eL eS) names), .im (eI less), .un, .un, .un] _ _ _
    exact so_ret (v_pair ev_int (ev_im (v_lst (f := eS) (xs := [head]) (Nat.le_of_ble_eq_true rfl) (ea_cons (ev_var (i := 1) rfl) ea_nil)))) rfl trivial (wk_rep rfl)

abbrev N_tree_of : List Str := ["one", "head", "size", "less", "heads", "other"]
theorem sc_tree_of : FnScope N_tree_of ["one", "head", "size"] (defScope (top 21)) := ⟨rfl, rfl, rfl, by decide +kernel, rfl, by decide +kernel, by decide +kernel⟩
theorem ok_tree_of (D : Df K mg "tree_of" 21) (fr : Free mg) (cf_Map_points : CF K "Map" "points") (m_Map_names : MethAt P w K mg base 4 (He.ga K "Map") "names" ["self", "head", "size"] (spX K (SF U_Map_names en_Map_names er_Map_names K) 3)) (m_Map_opened : MethAt P w K mg base 5 (He.ga K "Map") "opened" ["self", "head", "size"] (spX K (SF U_Map_opened en_Map_opened er_Map_opened K) 3)) : ∀ n_ : Nat, FnAt P w K mg base (6 + n_) "tree_of" ["one", "head", "size"] (spX K (SF (U_tree_of n_) en_tree_of er_tree_of K) 3) := by
  intro n_
  induction n_ with
  | zero =>
    obtain ⟨f, fd, F, hm⟩ := D
    exact ⟨f, fd, hm, F.kp, F.bindsN (fun _ _ _ _ _ _ us hl => match us, hl with | [_, _, _], _ => rfl), fn_none fun vs H Q E h => by
      obtain ⟨F0, rs, res, hl, k0, t0, r0, s0, q⟩ := h
      exact sf_none (fun _ => rfl) s0⟩
  | succ n_ g_tree_of =>
  show FnAt P w K mg base ((6 + n_) + 1) _ _ _
  obtain ⟨f, fd, F, hm⟩ := D
  have nd := sc_tree_of.nd
  refine fn_ok F sc_tree_of hm (fun _ _ _ _ _ _ us hl => match us, hl with | [_, _, _], _ => rfl) (by decide) fun cdv A outer s H E hr => ?_
  have tk := L2N.takes_of (X := cxOf (L2N.CX P w) P w K mg base N_tree_of "tree_of" (defScope (top 21)) f cdv A outer s H E) (E := E) rfl rfl rfl rfl
  refine ⟨_, (pss_cons (ps_asg (pe_mtE m_Map_opened hr (by omega) cf_Map_points.c (fun σ => passAt0 σ) (pv 0) (pa_cons (pv 1) (pa_cons (pv 2) pa_nil))) (pg_tup rfl (pgs_cons (pg_name (i := 3) nd rfl (by first | exact Or.inl rfl | exact Or.inr rfl)) (pgs_cons (pg_name (i := 4) nd rfl (by first | exact Or.inl rfl | exact Or.inr rfl)) pgs_nil))))
      (pss_cons (ps_if (pt_cmpR op_eq (pe_callB call_len rfl fr.len (by decide +kernel) (pa_cons (pv 4) pa_nil)) pe_int (nomark _)) (pss_cons (ps_ret (pe_callTy call_tuple_of rfl fr.tuple (by decide +kernel) (pa_cons (pe_mtE m_Map_names hr (by omega) cf_Map_points.c (fun σ => passAt0 σ) (pv 0) (pa_cons (pv 1) (pa_cons (pv 2) pa_nil))) pa_nil)))
      pss_nil) pss_nil)
      (pss_cons (ps_ret (pe_tup (pa_cons (pv 3) (pa_cons (pe_callTy call_tuple_of rfl fr.tuple (by decide +kernel) (pa_cons (pe_lc (own := [("other", 5)]) rfl nd (pi_list (pv 4)) (blkOk_by (N := N_tree_of) (sc := (defScope (top 21))) (by decide +kernel)) (fun _ _ _ _ _ => (pg_name (i := 5) nd rfl (by first | exact Or.inl rfl | exact Or.inr rfl))) (fun _ _ _ _ _ => pts_nil) (fun _ _ _ _ _ => (pe_fn g_tree_of hr (by omega) rfl (pa_cons (pv 0) (pa_cons (pv 5) (pa_cons (pv 3) pa_nil)))))) pa_nil)) pa_nil))))
      pss_nil))), fun rs res hl sp B => ?_⟩
  refine so_def (e0 := fun rs => rs.map toSl ++ List.replicate (N_tree_of.length - rs.length) Sl.un) (ek := fun _ => [.un, .un, .un, .un, .un, .un]) 6 sp (fun _ => trivial) fun a => ?_
  obtain ⟨one, head, size⟩ := a
  try dsimp only [cxOf]
  change Sq K B _ _ [.br (bMap one), .im (eS head), .im (eI size), .un, .un, .un] _ _ _
  show Sq K B _ _ _ _ _ (F_tree_of (n_ + 1) one head size)
  unfold F_tree_of
  refine so_gd fun hc => ?_
  refine so_un2 (i := 3) (j := 4) eI (eL eS) (v_meth (enr := (eP eI (eL eS))) (F := U_Map_opened) (en := en_Map_opened) (er' := er_Map_opened) (a := (one, (eS head), (eI size))) hc (objB_map (by decide)) rfl (fun _ => rfl) (ev_bl (ev_varR (i := 0) rfl)) (ea_cons (ev_var (i := 1) rfl) (ea_cons (ev_var (i := 2) rfl) ea_nil)) (fl_Map_opened _) rfl) fun less heads => ?_
  change Sq K B _ _ [.br (bMap one), .im (eS head), .im (eI size), .im (eI less), .im ((eL eS) heads), .un] _ _ _
  refine so_ifX (et_test (ev_eqI (v_len (f := eS) (ev_ob (ev_var (i := 4) rfl))) ev_int)) (fun hb => ?_) fun hb => ?_
  · refine so_gd fun hc => ?_
    exact so_ret (v_tupL (f := eS) (ev_ob (v_meth (enr := (eL eS)) (F := U_Map_names) (en := en_Map_names) (er' := er_Map_names) (a := (one, (eS head), (eI size))) hc (objB_map (by decide)) rfl (fun _ => rfl) (ev_bl (ev_varR (i := 0) rfl)) (ea_cons (ev_var (i := 1) rfl) (ea_cons (ev_var (i := 2) rfl) ea_nil)) (fl_Map_names _) rfl))) rfl trivial (wk_rep rfl)
  · refine so_gd fun hc => ?_
    exact so_ret (v_pair (ev_var (i := 3) rfl) (v_tupL (f := eA) (ev_no (v_lcA (f := eS) (g := eA) (js := [5]) (fun other' => [eS other']) (fun other' : Str => (valO (F_tree_of n_ one other' less))) hc.1 (ei_list (ev_ob (ev_var (i := 4) rfl))) (fun _ _ => eg_name) (by decide) (fun other' hx => (v_call (enr := eA) (F := (U_tree_of n_)) (en := en_tree_of) (er' := er_tree_of) (a := (one, other', less)) (hc.2 other' hx) (fun _ => rfl) (ea_cons (ev_bl (ev_varR (i := 0) rfl)) (ea_cons (ev_var (i := 5) rfl) (ea_cons (ev_var (i := 3) rfl) ea_nil))) (fl_tree_of _) rfl)))))) rfl trivial (wk_rep rfl)

abbrev N_trees : List Str := ["one", "head"]
theorem sc_trees : FnScope N_trees ["one"] (defScope (top 22)) := ⟨rfl, rfl, rfl, by decide +kernel, rfl, by decide +kernel, by decide +kernel⟩
theorem ok_trees (D : Df K mg "trees" 22) (cn : Cns K mg) (cf_Map_points : CF K "Map" "points") (g_tree_of : FnAt P w K mg base 22 "tree_of" ["one", "head", "size"] (spX K (SF (U_tree_of 16) en_tree_of er_tree_of K) 3)) (m_Map_heaps : MethAt P w K mg base 3 (He.ga K "Map") "heaps" ["self", "size"] (spX K (SF U_Map_heaps en_Map_heaps er_Map_heaps K) 2)) : FnAt P w K mg base 24 "trees" ["one"] (spX K (SF U_trees en_trees er_trees K) 1) := by
  obtain ⟨f, fd, F, hm⟩ := D
  have nd := sc_trees.nd
  refine fn_ok F sc_trees hm (fun _ _ _ _ _ _ us hl => match us, hl with | [_], _ => rfl) (by decide) fun cdv A outer s H E hr => ?_
  have tk := L2N.takes_of (X := cxOf (L2N.CX P w) P w K mg base N_trees "trees" (defScope (top 22)) f cdv A outer s H E) (E := E) rfl rfl rfl rfl
  refine ⟨_, (pss_cons (ps_ret (pe_lc (own := [("head", 1)]) rfl nd (pi_list (pe_mtE m_Map_heaps hr (by decide) cf_Map_points.c (fun σ => passAt0 σ) (pv 0) (pa_cons (pe_glob (v := .int 13) rfl cn.MOST_SIZE.choose_spec ⟨_, rfl⟩) pa_nil))) (blkOk_by (N := N_trees) (sc := (defScope (top 22))) (by decide +kernel)) (fun _ _ _ _ _ => (pg_name (i := 1) nd rfl (by first | exact Or.inl rfl | exact Or.inr rfl))) (fun _ _ _ _ _ => pts_nil) (fun _ _ _ _ _ => (pe_fn g_tree_of hr (by decide) rfl (pa_cons (pv 0) (pa_cons (pv 1) (pa_cons (pe_glob (v := .int 13) rfl cn.MOST_SIZE.choose_spec ⟨_, rfl⟩) pa_nil)))))))
      pss_nil), fun rs res hl sp B => ?_⟩
  refine so_def (e0 := fun rs => rs.map toSl ++ List.replicate (N_trees.length - rs.length) Sl.un) (ek := fun _ => [.un, .un]) 2 sp (fun _ => trivial) fun one => ?_
  try dsimp only [cxOf]
  change Sq K B _ _ [.br (bMap one), .un] _ _ _
  show Sq K B _ _ _ _ _ (F_trees one)
  unfold F_trees
  refine so_gd fun hc => ?_
  exact so_ret (v_lcA (f := eS) (g := eA) (js := [1]) (fun head' => [eS head']) (fun head' : Str => (valO (F_tree_of 16 one head' (13 : Int)))) hc.2.1 (ei_list (ev_ob (v_meth (enr := (eL eS)) (F := U_Map_heaps) (en := en_Map_heaps) (er' := er_Map_heaps) (a := (one, (eI (13 : Int)))) hc.1 (objB_map (by decide)) rfl (fun _ => rfl) (ev_bl (ev_varR (i := 0) rfl)) (ea_cons ev_int ea_nil) (fl_Map_heaps _) rfl))) (fun _ _ => eg_name) (by decide) (fun head' hx => (v_call (enr := eA) (F := (U_tree_of 16)) (en := en_tree_of) (er' := er_tree_of) (a := (one, head', (13 : Int))) (hc.2.2 head' hx) (fun _ => rfl) (ea_cons (ev_bl (ev_varR (i := 0) rfl)) (ea_cons (ev_var (i := 1) rfl) (ea_cons ev_int ea_nil))) (fl_tree_of _) rfl))) rfl trivial (wk_rep rfl)

abbrev N_widest : List Str := ["one", "head", "size", "names", "best", "at", "name", "other", "own"]
theorem sc_widest : FnScope N_widest ["one", "head", "size"] (defScope (top 23)) := ⟨rfl, rfl, rfl, by decide +kernel, rfl, by decide +kernel, by decide +kernel⟩
theorem ok_widest (D : Df K mg "widest" 23) (fr : Free mg) (cf_Map_points : CF K "Map" "points") (g_apart : FnAt P w K mg base 1 "apart" ["one", "other"] (spX K S_apart 2)) (m_Map_names : MethAt P w K mg base 4 (He.ga K "Map") "names" ["self", "head", "size"] (spX K (SF U_Map_names en_Map_names er_Map_names K) 3)) (m_Map_point : MethAt P w K mg base 3 (He.ga K "Map") "point" ["self", "name"] (spX K (SF U_Map_point en_Map_point er_Map_point K) 2)) : FnAt P w K mg base 6 "widest" ["one", "head", "size"] (spX K (SF U_widest en_widest er_widest K) 3) := by
  obtain ⟨f, fd, F, hm⟩ := D
  have nd := sc_widest.nd
  refine fn_ok F sc_widest hm (fun _ _ _ _ _ _ us hl => match us, hl with | [_, _, _], _ => rfl) (by decide) fun cdv A outer s H E hr => ?_
  have tk := L2N.takes_of (X := cxOf (L2N.CX P w) P w K mg base N_widest "widest" (defScope (top 23)) f cdv A outer s H E) (E := E) rfl rfl rfl rfl
  refine ⟨_, (pss_cons (ps_set (i := 3) nd rfl (by first | exact Or.inl rfl | exact Or.inr rfl) (pe_mtE m_Map_names hr (by decide) cf_Map_points.c (fun σ => passAt0 σ) (pv 0) (pa_cons (pv 1) (pa_cons (pv 2) pa_nil))))
      (pss_cons (ps_set (i := 4) nd rfl (by first | exact Or.inl rfl | exact Or.inr rfl) (pe_tup (pa_cons (pe_ix ix_list (pv 3) pe_int (fun _ _ => rfl)) (pa_cons (pe_ix ix_list (pv 3) pe_int (fun _ _ => rfl)) (pa_cons pe_int pa_nil)))))
      (pss_cons (ps_for (passes_of rfl) rfl (pi_enum rfl fr.enumerate (pa_cons (pv 3) pa_nil)) (pg_tup rfl (pgs_cons (pg_name (i := 5) nd rfl (by first | exact Or.inl rfl | exact Or.inr rfl)) (pgs_cons (pg_name (i := 6) nd rfl (by first | exact Or.inl rfl | exact Or.inr rfl)) pgs_nil))) (pss_cons (ps_for (passes_of rfl) rfl (pi_list (pe_slice sl_list (pv 3) (po_some (pe_op op_add (pv 5) pe_int)) po_none)) (pg_name (i := 7) nd rfl (by first | exact Or.inl rfl | exact Or.inr rfl)) (pss_cons (ps_set (i := 8) nd rfl (by first | exact Or.inl rfl | exact Or.inr rfl) (pe_fn g_apart hr (by decide) rfl (pa_cons (pe_mtE m_Map_point hr (by decide) cf_Map_points.c (fun σ => passAt0 σ) (pv 0) (pa_cons (pv 6) pa_nil)) (pa_cons (pe_mtE m_Map_point hr (by decide) cf_Map_points.c (fun σ => passAt0 σ) (pv 0) (pa_cons (pv 7) pa_nil)) pa_nil))))
      (pss_cons (ps_if (pt_cmpR op_gt (pv 8) (pe_ix ix_tup (pv 4) pe_int (fun _ _ => rfl)) (nomark _)) (pss_cons (ps_set (i := 4) nd rfl (by first | exact Or.inl rfl | exact Or.inr rfl) (pe_tup (pa_cons (pv 6) (pa_cons (pv 7) (pa_cons (pv 8) pa_nil)))))
      pss_nil) pss_nil)
      pss_nil)))
      pss_nil))
      (pss_cons (ps_ret (pv 4))
      pss_nil)))), fun rs res hl sp B => ?_⟩
  refine so_def (e0 := fun rs => rs.map toSl ++ List.replicate (N_widest.length - rs.length) Sl.un) (ek := fun _ => [.un, .un, .un, .un, .un, .un, .un, .un, .un]) 9 sp (fun _ => trivial) fun a => ?_
  obtain ⟨one, head, size⟩ := a
  try dsimp only [cxOf]
  change Sq K B _ _ [.br (bMap one), .im (eA head), .im (eA size), .un, .un, .un, .un, .un, .un] _ _ _
  show Sq K B _ _ _ _ _ (F_widest one head size)
  unfold F_widest
  refine so_gd fun hc => ?_
  refine so_asg (i := 3) (eL eS) (v_meth (enr := (eL eS)) (F := U_Map_names) (en := en_Map_names) (er' := er_Map_names) (a := (one, head, size)) hc (objB_map (by decide)) rfl (fun _ => rfl) (ev_bl (ev_varR (i := 0) rfl)) (ea_cons (ev_var (i := 1) rfl) (ea_cons (ev_var (i := 2) rfl) ea_nil)) (fl_Map_names _) rfl) fun names => ?_
  change Sq K B _ _ [.br (bMap one), .im (eA head), .im (eA size), .im ((eL eS) names), .un, .un, .un, .un, .un] _ _ _
  refine so_gd fun hc => ?_
  refine so_asg (i := 4) (e3 eS eS eI) (v_trip (v_ixL (f := eS) hc.1 (ev_ob (ev_var (i := 3) rfl)) ev_int) (v_ixL (f := eS) hc.2 (ev_ob (ev_var (i := 3) rfl)) ev_int) ev_int) fun best => ?_
  change Sq K B _ _ [.br (bMap one), .im (eA head), .im (eA size), .im ((eL eS) names), .im ((e3 eS eS eI) best), .un, .un, .un, .un] _ _ _
  refine so_bind (ek1 := fun (best : (Str × Str × Int)) => [.br (bMap one), .im (eA head), .im (eA size), .im ((eL eS) names), .im ((e3 eS eS eI) best), .un, .un, .un, .un]) (so_wk (.eq (.eq (.eq (.eq (.eq (.eq (.eq (.eq (.eq .nil))))))))) (so_for (js := [5, 6]) (eP eI eS) (fun x_at_ => [eI x_at_.1, eS x_at_.2]) (EvF.w (w_enum (f := eS) (ev_var (i := 3) rfl))) (fun _ _ => eg_two) (fun x_at_ hx best => ?_) rfl)) fun best => ?_
  · change Sq K B _ _ [.br (bMap one), .im (eA head), .im (eA size), .im ((eL eS) names), .im ((e3 eS eS eI) best), .im (eI x_at_.1), .im (eS x_at_.2), .un, .un] _ _ _
    refine so_bind (ek1 := fun (best : (Str × Str × Int)) => [.br (bMap one), .im (eA head), .im (eA size), .im ((eL eS) names), .im ((e3 eS eS eI) best), .im (eI x_at_.1), .im (eS x_at_.2), .un, .un]) (so_wk (.eq (.eq (.eq (.eq (.eq (.eq (.eq (.eq (.eq .nil))))))))) (so_for (js := [7]) eS (fun other => [eS other]) (EvF.w (ef_list (ev_im (v_slL (f := eS) (ev_ob (ev_var (i := 3) rfl)) (eo_some (ev_add (ev_var (i := 5) rfl) ev_int)) eo_none)))) (fun _ _ => eg_name) (fun other hx best => ?_) rfl)) fun best => ?_
    · change Sq K B _ _ [.br (bMap one), .im (eA head), .im (eA size), .im ((eL eS) names), .im ((e3 eS eS eI) best), .im (eI x_at_.1), .im (eS x_at_.2), .im (eS other), .un] _ _ _
      refine so_gd fun hc => ?_
      refine so_asg (i := 8) eI (ev_call (ea_cons (v_meth (enr := (eP eI eI)) (F := U_Map_point) (en := en_Map_point) (er' := er_Map_point) (a := (one, (eS x_at_.2))) hc.1 (objB_map (by decide)) rfl (fun _ => rfl) (ev_bl (ev_varR (i := 0) rfl)) (ea_cons (ev_var (i := 6) rfl) ea_nil) (fl_Map_point _) rfl) (ea_cons (v_meth (enr := (eP eI eI)) (F := U_Map_point) (en := en_Map_point) (er' := er_Map_point) (a := (one, (eS other))) hc.2 (objB_map (by decide)) rfl (fun _ => rfl) (ev_bl (ev_varR (i := 0) rfl)) (ea_cons (ev_var (i := 7) rfl) ea_nil) (fl_Map_point _) rfl) ea_nil)) flat2 (S_apart.mk (valO (F_Map_point one (eS x_at_.2))).1 (valO (F_Map_point one (eS x_at_.2))).2 (valO (F_Map_point one (eS other))).1 (valO (F_Map_point one (eS other))).2) trivial) fun own => ?_
      change Sq K B _ _ [.br (bMap one), .im (eA head), .im (eA size), .im ((eL eS) names), .im ((e3 eS eS eI) best), .im (eI x_at_.1), .im (eS x_at_.2), .im (eS other), .im (eI own)] _ _ _
      refine so_bind (ek1 := fun (best : (Str × Str × Int)) => [.br (bMap one), .im (eA head), .im (eA size), .im ((eL eS) names), .im ((e3 eS eS eI) best), .im (eI x_at_.1), .im (eS x_at_.2), .im (eS other), .im (eI own)]) (so_if (et_test (ev_gt (ev_var (i := 8) rfl) (ev_ixT (ds := [eS (best).1, eS (best).2.1, eI (best).2.2]) (i := 2) (ev_var (i := 4) rfl) ev_int (by rfl)))) (fun hb => ?_) fun hb => ?_) fun best => ?_
      · refine so_asg (i := 4) (e3 eS eS eI) (v_trip (ev_var (i := 6) rfl) (ev_var (i := 7) rfl) (ev_var (i := 8) rfl)) fun best => ?_
        change Sq K B _ _ [.br (bMap one), .im (eA head), .im (eA size), .im ((eL eS) names), .im ((e3 eS eS eI) best), .im (eI x_at_.1), .im (eS x_at_.2), .im (eS other), .im (eI own)] _ _ _
        exact so_nx (.eq (.eq (.eq (.eq (.eq (.eq (.eq (.eq (.eq .nil)))))))))
      · exact so_nx (.eq (.eq (.eq (.eq (.eq (.eq (.eq (.eq (.eq .nil)))))))))
      · change Sq K B _ _ [.br (bMap one), .im (eA head), .im (eA size), .im ((eL eS) names), .im ((e3 eS eS eI) best), .im (eI x_at_.1), .im (eS x_at_.2), .im (eS other), .im (eI own)] _ _ _
        exact so_nx (.eq (.eq (.eq (.eq (.eq (.eq (.eq (.un (.un .nil)))))))))
    · change Sq K B _ _ [.br (bMap one), .im (eA head), .im (eA size), .im ((eL eS) names), .im ((e3 eS eS eI) best), .im (eI x_at_.1), .im (eS x_at_.2), .un, .un] _ _ _
      exact so_nx (.eq (.eq (.eq (.eq (.eq (.un (.un (.eq (.eq .nil)))))))))
  · change Sq K B _ _ [.br (bMap one), .im (eA head), .im (eA size), .im ((eL eS) names), .im ((e3 eS eS eI) best), .un, .un, .un, .un] _ _ _
    exact so_ret (ev_var (i := 4) rfl) rfl trivial (wk_rep rfl)

end
end NM
namespace NM
open PySem PySem.Spec PyProof.Rows L2
variable [Tbs]
section
variable {P : Program} {w : World} {K : PySem.W.Frag} {mg : Str → Option Value} {base : Heap}
abbrev N__law_name : List Str := ["_law_j"]
theorem sc__law_name : FnScope N__law_name ["_law_j"] (defScope (top 35)) := ⟨rfl, rfl, rfl, by decide +kernel, rfl, by decide +kernel, by decide +kernel⟩
theorem ok__law_name (D : Df K mg "_law_name" 35) : FnAt P w K mg base 1 "_law_name" ["_law_j"] (spX K (SF U__law_name en__law_name er__law_name K) 1) := by
  obtain ⟨f, fd, F, hm⟩ := D
  have nd := sc__law_name.nd
  refine fn_ok F sc__law_name hm (fun _ _ _ _ _ _ us hl => match us, hl with | [_], _ => rfl) (by decide) fun cdv A outer s H E hr => ?_
  have tk := L2N.takes_of (X := cxOf (L2N.CX P w) P w K mg base N__law_name "_law_name" (defScope (top 35)) f cdv A outer s H E) (E := E) rfl rfl rfl rfl
  refine ⟨_, (pss_cons (ps_ret (pe_op op_add_str (pe_ix ix_str pe_str (pe_op op_fdiv (pv 0) pe_int) (fun _ _ => rfl)) (pe_ix ix_str pe_str (pe_op op_mod (pv 0) pe_int) (fun _ _ => rfl))))
      pss_nil), fun rs res hl sp B => ?_⟩
  refine so_def (e0 := fun rs => rs.map toSl ++ List.replicate (N__law_name.length - rs.length) Sl.un) (ek := fun _ => [.un]) 1 sp (fun _ => trivial) fun j => ?_
  try dsimp only [cxOf]
  change Sq K B _ _ [.im (eI j)] _ _ _
  show Sq K B _ _ _ _ _ (F__law_name j)
  unfold F__law_name
  refine so_gd fun hc => ?_
  exact so_ret (v_addS hc.2.2.2.2 (v_ixS hc.1 hc.2.1 ev_str (ev_div (ev_var (i := 0) rfl) ev_int (by constructor <;> decide))) (v_ixS hc.2.2.1 hc.2.2.2.1 ev_str (ev_mod (ev_var (i := 0) rfl) ev_int (by decide)))) rfl trivial (wk_rep rfl)

abbrev N__law_few : List Str := ["_law_more", "_law_many", "_law_found", "_law_j", "_law_here", "_law_point_here", "_law_near_here", "_law_by"]
theorem sc__law_few : FnScope N__law_few ["_law_more", "_law_many"] (defScope (top 39)) := ⟨rfl, rfl, rfl, by decide +kernel, rfl, by decide +kernel, by decide +kernel⟩
theorem ok__law_few (D : Df K mg "_law_few" 39) (fr : Free mg) (g__law_drawn : FnAt P w K mg base 1 "_law_drawn" ["_law_cell_here", "_law_k"] (spX K S_drawn 2)) (g__law_name : FnAt P w K mg base 1 "_law_name" ["_law_j"] (spX K (SF U__law_name en__law_name er__law_name K) 1)) (g__law_point : FnAt P w K mg base 1 "_law_point" ["_law_more"] (spX K S_point 1)) : FnAt P w K mg base 2 "_law_few" ["_law_more", "_law_many"] (spX K (SF U__law_few en__law_few er__law_few K) 2) := by
  obtain ⟨f, fd, F, hm⟩ := D
  have nd := sc__law_few.nd
  refine fn_ok F sc__law_few hm (fun _ _ _ _ _ _ us hl => match us, hl with | [_, _], _ => rfl) (by decide) fun cdv A outer s H E hr => ?_
  have tk := L2N.takes_of (X := cxOf (L2N.CX P w) P w K mg base N__law_few "_law_few" (defScope (top 39)) f cdv A outer s H E) (E := E) rfl rfl rfl rfl
  refine ⟨_, (pss_cons (ps_set (i := 2) nd rfl (by first | exact Or.inl rfl | exact Or.inr rfl) pe_dnewK)
      (pss_cons (ps_for (passes_of rfl) rfl (pi_range1 rfl fr.range (pa_cons (pe_op op_mod (pv 0) (pe_op op_add (pv 1) pe_int)) pa_nil)) (pg_name (i := 3) nd rfl (by first | exact Or.inl rfl | exact Or.inr rfl)) (pss_cons (ps_set (i := 4) nd rfl (by first | exact Or.inl rfl | exact Or.inr rfl) (pe_fn g__law_drawn hr (by decide) rfl (pa_cons (pv 0) (pa_cons (pe_op op_add pe_int (pv 3)) pa_nil))))
      (pss_cons (ps_set (i := 5) nd rfl (by first | exact Or.inl rfl | exact Or.inr rfl) (pe_fn g__law_point hr (by decide) rfl (pa_cons (pe_op op_fdiv (pv 4) pe_int) pa_nil)))
      (pss_cons (ps_if (PW.pt (pw_and (pt_cmpR (op_neD0 (Nat.lt_of_le_of_lt (Nat.le_add_right _ 64) hr.units)) (pv 2) pe_dnewK (nomark _)) (pw_and1 (pt_cmpR op_gt (pe_op op_mod (pv 4) pe_int) pe_int (nomark _))))) (pss_cons (ps_set (i := 6) nd rfl (by first | exact Or.inl rfl | exact Or.inr rfl) (pe_dget (hu_of hr) (pv 2) (pe_ix ix_list (pe_callB (call_sortedD rfl) rfl fr.sorted (by decide +kernel) (pa_cons (pv 2) pa_nil)) (pe_op op_mod (pe_op op_fdiv (pv 4) pe_int) (pe_callB call_lenR rfl fr.len (by decide +kernel) (pa_cons (pv 2) pa_nil))) (fun _ _ => rfl)) (fun _ _ => rfl)))
      (pss_cons (ps_set (i := 7) nd rfl (by first | exact Or.inl rfl | exact Or.inr rfl) (pe_ix ix_list (pe_lst (pa_cons pe_int (pa_cons pe_int (pa_cons pe_int (pa_cons pe_int pa_nil))))) (pe_op op_mod (pe_op op_fdiv (pv 4) pe_int) pe_int) (fun _ _ => rfl)))
      (pss_cons (ps_set (i := 5) nd rfl (by first | exact Or.inl rfl | exact Or.inr rfl) (pe_tup (pa_cons (pe_callB (call_min2 rfl) rfl fr.min (by decide +kernel) (pa_cons pe_int (pa_cons (pe_op op_add (pe_ix ix_tup (pv 6) pe_int (fun _ _ => rfl)) (pe_op op_mod (pe_op op_fdiv (pv 4) (pe_op op_pow pe_int pe_int)) (pe_op op_add (pv 7) pe_int))) pa_nil))) (pa_cons (pe_callB (call_max2 rfl) rfl fr.max (by decide +kernel) (pa_cons pe_int (pa_cons (pe_op op_sub (pe_ix ix_tup (pv 6) pe_int (fun _ _ => rfl)) (pe_op op_mod (pe_op op_fdivW (pv 4) (pe_op op_pow pe_int pe_int)) (pe_op op_add (pv 7) pe_int))) pa_nil))) pa_nil))))
      pss_nil))) pss_nil)
      (pss_cons (ps_dput (hu_of hr) (pv 2) (pe_fn g__law_name hr (by decide) rfl (pa_cons (pe_op op_mod (pe_op op_fdivW (pv 4) (pe_op op_pow pe_int pe_int)) pe_int) pa_nil)) (pv 5) rfl)
      pss_nil)))))
      (pss_cons (ps_ret (pv 2))
      pss_nil))), fun rs res hl sp B => ?_⟩
  refine so_def (e0 := fun rs => rs.map toSl ++ List.replicate (N__law_few.length - rs.length) Sl.un) (ek := fun _ => [.un, .un, .un, .un, .un, .un, .un, .un]) 8 sp (fun _ => trivial) fun a => ?_
  obtain ⟨more, many⟩ := a
  try dsimp only [cxOf]
  change Sq K B _ _ [.im (eI more), .im (eI many), .un, .un, .un, .un, .un, .un] _ _ _
  show Sq K B _ _ _ _ _ (F__law_few more many)
  unfold F__law_few
  refine so_asgW (i := 2) (fun r : (List (Str × (Int × Int))) => oM ((eD (eP eI eI)) r)) (ev_dnew) fun found => ?_
  change Sq K B _ _ [.im (eI more), .im (eI many), .ow (oM ((eD (eP eI eI)) found)), .un, .un, .un, .un, .un] _ _ _
  refine so_gd fun hc => ?_
  refine so_bind (ek1 := fun (found : (List (Str × (Int × Int)))) => [.im (eI more), .im (eI many), .ow (oM ((eD (eP eI eI)) found)), .un, .un, .un, .un, .un]) (so_wk (.eq (.eq (.eq (.eq (.eq (.eq (.eq (.eq .nil)))))))) (so_for (js := [3]) eI (fun j => [eI j]) (EvF.w (w_range1 hc.2 (ea_cons (ev_mod (ev_var (i := 0) rfl) (ev_add (ev_var (i := 1) rfl) ev_int) hc.1) ea_nil))) (fun _ _ => eg_name) (fun j hx found => ?_) rfl)) fun found => ?_
  · change Sq K B _ _ [.im (eI more), .im (eI many), .ow (oM ((eD (eP eI eI)) found)), .im (eI j), .un, .un, .un, .un] _ _ _
    refine so_gd fun hc => ?_
    refine so_asg (i := 4) eI (v_drawn hc (ea_cons (ev_var (i := 0) rfl) (ea_cons (ev_add ev_int (ev_var (i := 3) rfl)) ea_nil))) fun here => ?_
    change Sq K B _ _ [.im (eI more), .im (eI many), .ow (oM ((eD (eP eI eI)) found)), .im (eI j), .im (eI here), .un, .un, .un] _ _ _
    refine so_asg (i := 5) (eP eI eI) (ev_call (ea_cons (ev_div (ev_var (i := 4) rfl) ev_int (by constructor <;> decide)) ea_nil) flat1 (S_point.mk (here / (1024 : Int))) trivial) fun pointH => ?_
    change Sq K B _ _ [.im (eI more), .im (eI many), .ow (oM ((eD (eP eI eI)) found)), .im (eI j), .im (eI here), .im ((eP eI eI) pointH), .un, .un] _ _ _
    refine so_bind (ek1 := fun (pointH : (Int × Int)) => [.im (eI more), .im (eI many), .ow (oM ((eD (eP eI eI)) found)), .im (eI j), .im (eI here), .im ((eP eI eI) pointH), .un, .un]) (so_if (et_and (et_test (v_neD0 (f := (eP eI eI)) (ev_varO (i := 2) rfl) ev_dnew)) fun z => (et_test (ev_gt (ev_mod (ev_var (i := 4) rfl) ev_int (by decide)) ev_int))) (fun hb => ?_) fun hb => ?_) fun pointH => ?_
    · refine so_gd fun hc => ?_
      refine so_asg (i := 6) (eP eI eI) (v_dget (f := (eP eI eI)) hc.2.2.2 (ev_varO (i := 2) rfl) (v_ixL (f := eS) hc.2.2.1 (ev_no (v_sortedD (f := (eP eI eI)) hc.1 (ev_varO (i := 2) rfl))) (ev_mod (ev_div (ev_var (i := 4) rfl) ev_int (by constructor <;> decide)) (v_lenD (f := (eP eI eI)) (ev_varO (i := 2) rfl)) hc.2.1))) fun nearH => ?_
      change Sq K B _ _ [.im (eI more), .im (eI many), .ow (oM ((eD (eP eI eI)) found)), .im (eI j), .im (eI here), .im ((eP eI eI) pointH), .im ((eP eI eI) nearH), .un] _ _ _
      refine so_gd fun hc => ?_
      refine so_asg (i := 7) eI (v_ixL (f := eI) hc (ev_no (v_lst (f := eI) (xs := [(1 : Int), (2 : Int), (5 : Int), (40 : Int)]) (Nat.le_of_ble_eq_true rfl) (ea_cons ev_int (ea_cons ev_int (ea_cons ev_int (ea_cons ev_int ea_nil)))))) (ev_mod (ev_div (ev_var (i := 4) rfl) ev_int (by constructor <;> decide)) ev_int (by decide))) fun by_ => ?_
      change Sq K B _ _ [.im (eI more), .im (eI many), .ow (oM ((eD (eP eI eI)) found)), .im (eI j), .im (eI here), .im ((eP eI eI) pointH), .im ((eP eI eI) nearH), .im (eI by_)] _ _ _
      refine so_gd fun hc => ?_
      refine so_asg (i := 5) (eP eI eI) (v_pair (v_min2 ev_int (ev_add (ev_ixT (ds := [eI (nearH).1, eI (nearH).2]) (i := 0) (ev_var (i := 6) rfl) ev_int (by rfl)) (ev_mod (ev_div (ev_var (i := 4) rfl) (ev_pow ev_int ev_int ⟨by decide, by decide, by decide⟩) hc.1) (ev_add (ev_var (i := 7) rfl) ev_int) hc.2.1))) (v_max2 ev_int (ev_sub (ev_ixT (ds := [eI (nearH).1, eI (nearH).2]) (i := 1) (ev_var (i := 6) rfl) ev_int (by rfl)) (ev_mod (ev_divW (ev_var (i := 4) rfl) (ev_pow ev_int ev_int ⟨by decide, by decide, by decide⟩) hc.2.2.1) (ev_add (ev_var (i := 7) rfl) ev_int) hc.2.2.2)))) fun pointH => ?_
      change Sq K B _ _ [.im (eI more), .im (eI many), .ow (oM ((eD (eP eI eI)) found)), .im (eI j), .im (eI here), .im ((eP eI eI) pointH), .im ((eP eI eI) nearH), .im (eI by_)] _ _ _
      exact so_nx (.eq (.eq (.eq (.eq (.eq (.eq (.un (.un .nil))))))))
    · exact so_nx (.eq (.eq (.eq (.eq (.eq (.eq (.eq (.eq .nil))))))))
    · change Sq K B _ _ [.im (eI more), .im (eI many), .ow (oM ((eD (eP eI eI)) found)), .im (eI j), .im (eI here), .im ((eP eI eI) pointH), .un, .un] _ _ _
      refine so_gd fun hc => ?_
      refine so_dput (f := (eP eI eI)) 2 rfl (ev_var (i := 5) rfl) (v_call (enr := eS) (F := U__law_name) (en := en__law_name) (er' := er__law_name) (a := ((here / ((2 : Int) ^ ((40 : Int)).toNat)) % (30 : Int))) hc.2.1 (fun _ => rfl) (ea_cons (ev_mod (ev_divW (ev_var (i := 4) rfl) (ev_pow ev_int ev_int ⟨by decide, by decide, by decide⟩) hc.1) ev_int (by decide)) ea_nil) (fl__law_name _) rfl) hc.2.2 fun found => ?_
      change Sq K B _ _ [.im (eI more), .im (eI many), .ow (oM ((eD (eP eI eI)) found)), .im (eI j), .im (eI here), .im ((eP eI eI) pointH), .un, .un] _ _ _
      exact so_nx (.eq (.eq (.eq (.un (.un (.un (.eq (.eq .nil))))))))
  · change Sq K B _ _ [.im (eI more), .im (eI many), .ow (oM ((eD (eP eI eI)) found)), .un, .un, .un, .un, .un] _ _ _
    refine so_frz 2 rfl ?_
    change Sq K B _ _ [.im (eI more), .im (eI many), .im ((eD (eP eI eI)) found), .un, .un, .un, .un, .un] _ _ _
    exact so_ret (ev_var (i := 2) rfl) rfl trivial (wk_rep rfl)

abbrev N__law_heaps : List Str := ["_law_points", "_law_size", "_law_called", "_law_is_more", "_law_one", "_law_other", "_law_found", "_law_name_here"]
theorem sc__law_heaps : FnScope N__law_heaps ["_law_points", "_law_size"] (defScope (top 36)) := ⟨rfl, rfl, rfl, by decide +kernel, rfl, by decide +kernel, by decide +kernel⟩
theorem ok__law_heaps (D : Df K mg "_law_heaps" 36) (fr : Free mg) (g__law_near : FnAt P w K mg base 2 "_law_near" ["_law_one", "_law_other", "_law_size"] (spX K S_lnear 3)) : FnAt P w K mg base 3 "_law_heaps" ["_law_points", "_law_size"] (spX K (SF U__law_heaps en__law_heaps er__law_heaps K) 2) := by
  obtain ⟨f, fd, F, hm⟩ := D
  have nd := sc__law_heaps.nd
  refine fn_ok F sc__law_heaps hm (fun _ _ _ _ _ _ us hl => match us, hl with | [_, _], _ => rfl) (by decide) fun cdv A outer s H E hr => ?_
  have tk := L2N.takes_of (X := cxOf (L2N.CX P w) P w K mg base N__law_heaps "_law_heaps" (defScope (top 36)) f cdv A outer s H E) (E := E) rfl rfl rfl rfl
  refine ⟨_, (pss_cons (ps_set (i := 2) nd rfl (by first | exact Or.inl rfl | exact Or.inr rfl) (pe_callTy (call_dictP rfl) rfl fr.dict (by decide +kernel) (pa_cons (pe_lk (pe_lc (own := [("_law_name_here", 7)]) rfl nd (pi_keys (pv 0)) (blkOk_by (N := N__law_heaps) (sc := (defScope (top 36))) (by decide +kernel)) (fun _ _ _ _ _ => (pg_name (i := 7) nd rfl (by first | exact Or.inl rfl | exact Or.inr rfl))) (fun _ _ _ _ _ => pts_nil) (fun _ _ _ _ _ => (pe_tup (pa_cons (pv 7) (pa_cons (pv 7) pa_nil)))))) pa_nil)))
      (pss_cons (ps_set (i := 3) nd rfl (by first | exact Or.inl rfl | exact Or.inr rfl) pe_bl)
      (pss_cons (ps_while (passes_of rfl) (pt_val (pv 3)) (pss_cons (ps_set (i := 3) nd rfl (by first | exact Or.inl rfl | exact Or.inr rfl) pe_bl)
      (pss_cons (ps_lkX (fun W tk => (ps_for (passes_of rfl) rfl (pi_keys (pv 0)) (pg_name (i := 4) nd rfl (by first | exact Or.inl rfl | exact Or.inr rfl)) (pss_cons (ps_lkX (fun W tk => (ps_for (passes_of rfl) rfl (pi_keys (pv 0)) (pg_name (i := 5) nd rfl (by first | exact Or.inl rfl | exact Or.inr rfl)) (pss_cons (ps_if (PW.pt (pw_and (pt_cmpR op_lt_str (pe_dget (hu_of hr) (pv 2) (pv 5) (fun _ _ => rfl)) (pe_dget (hu_of hr) (pv 2) (pv 4) (fun _ _ => rfl)) (nomark _)) (pw_and1 (pt_val (pe_fn g__law_near hr (by decide) rfl (pa_cons (pe_dget (hu_of hr) (pv 0) (pv 4) (fun _ _ => rfl)) (pa_cons (pe_dget (hu_of hr) (pv 0) (pv 5) (fun _ _ => rfl)) (pa_cons (pv 1) pa_nil)))))))) (pss_cons (ps_dput (hu_of hr) (pv 2) (pv 4) (pe_dget (hu_of hr) (pv 2) (pv 5) (fun _ _ => rfl)) rfl)
      (pss_cons (ps_set (i := 3) nd rfl (by first | exact Or.inl rfl | exact Or.inr rfl) pe_bl)
      pss_nil)) pss_nil)
      pss_nil))) tk)
      pss_nil))) tk)
      pss_nil)))
      (pss_cons (ps_set (i := 6) nd rfl (by first | exact Or.inl rfl | exact Or.inr rfl) pe_dnewK)
      (pss_cons (ps_for (passes_of rfl) rfl (pi_list (pe_callB (call_sortedD rfl) rfl fr.sorted (by decide +kernel) (pa_cons (pv 2) pa_nil))) (pg_name (i := 7) nd rfl (by first | exact Or.inl rfl | exact Or.inr rfl)) (pss_cons (ps_dput (hu_of hr) (pv 6) (pe_dget (hu_of hr) (pv 2) (pv 7) (fun _ _ => rfl)) (pe_op op_catA (pe_dget2 (hu_of hr) (pv 6) (pe_dget (hu_of hr) (pv 2) (pv 7) (fun _ _ => rfl)) (pe_tup pa_nil) ⟨rfl, rfl, rfl, rfl⟩) (pe_tup (pa_cons (pv 7) pa_nil))) rfl)
      pss_nil))
      (pss_cons (ps_ret (pv 6))
      pss_nil)))))), fun rs res hl sp B => ?_⟩
  refine so_def (e0 := fun rs => rs.map toSl ++ List.replicate (N__law_heaps.length - rs.length) Sl.un) (ek := fun _ => [.un, .un, .un, .un, .un, .un, .un, .un]) 8 sp (fun _ => trivial) fun a => ?_
  obtain ⟨points, size⟩ := a
  try dsimp only [cxOf]
  change Sq K B _ _ [.br (oB ((eD (eP eI eI)) points)), .im (eI size), .un, .un, .un, .un, .un, .un] _ _ _
  show Sq K B _ _ _ _ _ (F__law_heaps points size)
  unfold F__law_heaps
  refine so_gd fun hc => ?_
  refine so_asgW (i := 2) (fun r : (List (Str × Str)) => oM ((eD eS) r)) (v_dictP (f := eS) (ev_no (v_lcKA (f := (eP eI eI)) (g := (eP eS eS)) (js := [7]) (fun nameH' => [eS nameH']) (fun nameH' : Str => (nameH', nameH')) hc (EvD.z (ed_varB (i := 0) rfl)) (fun _ _ => eg_name) (by decide) (fun nameH' hx => (v_pair (ev_var (i := 7) rfl) (ev_var (i := 7) rfl)))))) fun called => ?_
  change Sq K B _ _ [.br (oB ((eD (eP eI eI)) points)), .im (eI size), .ow (oM ((eD eS) called)), .un, .un, .un, .un, .un] _ _ _
  refine so_asg (i := 3) eB ev_bool fun ismore => ?_
  change Sq K B _ _ [.br (oB ((eD (eP eI eI)) points)), .im (eI size), .ow (oM ((eD eS) called)), .im (eB ismore), .un, .un, .un, .un] _ _ _
  refine so_bind (ek1 := fun (s : (List (Str × Str)) × Bool) => match s with | (called, ismore) => [.br (oB ((eD (eP eI eI)) points)), .im (eI size), .ow (oM ((eD eS) called)), .im (eB ismore), .un, .un, .un, .un]) (so_wk (.eq (.eq (.eq (.eq (.eq (.eq (.eq (.eq .nil)))))))) (so_while (fun s hc => ?_) (fun s hp hb => ?_) rfl)) fun s => ?_
  · obtain ⟨called, ismore⟩ := s
    exact (et_B (ev_var (i := 3) rfl))
  · obtain ⟨called, ismore⟩ := s
    change Sq K B _ _ [.br (oB ((eD (eP eI eI)) points)), .im (eI size), .ow (oM ((eD eS) called)), .im (eB ismore), .un, .un, .un, .un] _ _ _
    refine so_asg (i := 3) eB ev_bool fun ismore => ?_
    change Sq K B _ _ [.br (oB ((eD (eP eI eI)) points)), .im (eI size), .ow (oM ((eD eS) called)), .im (eB ismore), .un, .un, .un, .un] _ _ _
    refine so_bind (ek1 := fun (s : (List (Str × Str)) × Bool) => match s with | (called, ismore) => [.br (oB ((eD (eP eI eI)) points)), .im (eI size), .ow (oM ((eD eS) called)), .im (eB ismore), .un, .un, .un, .un]) (so_wk (.eq (.eq (.eq (.eq (.eq (.eq (.eq (.eq .nil)))))))) (so_forKT (f := (eP eI eI)) (js := [4]) (fun one => [eS one]) (ed_varB (i := 0) rfl) (fun _ => eg_name) (fun W one hx s => ?_) rfl)) fun s => ?_
    · obtain ⟨called, ismore⟩ := s
      change Sq K B _ _ [.br (oB ((eD (eP eI eI)) points)), .im (eI size), .ow (oM ((eD eS) called)), .im (eB ismore), .im (eS one), .un, .un, .un] _ _ _
      refine so_bind (ek1 := fun (s : (List (Str × Str)) × Bool) => match s with | (called, ismore) => [.br (oB ((eD (eP eI eI)) points)), .im (eI size), .ow (oM ((eD eS) called)), .im (eB ismore), .im (eS one), .un, .un, .un]) (so_wk (.eq (.eq (.eq (.eq (.eq (.eq (.eq (.eq .nil)))))))) (so_forKT (f := (eP eI eI)) (js := [5]) (fun other => [eS other]) (ed_varB (i := 0) rfl) (fun _ => eg_name) (fun W other hx s => ?_) rfl)) fun s => ?_
      · obtain ⟨called, ismore⟩ := s
        change Sq K B _ _ [.br (oB ((eD (eP eI eI)) points)), .im (eI size), .ow (oM ((eD eS) called)), .im (eB ismore), .im (eS one), .im (eS other), .un, .un] _ _ _
        refine so_gd fun hc => ?_
        refine so_bind (ek1 := fun (s : (List (Str × Str)) × Bool) => match s with | (called, ismore) => [.br (oB ((eD (eP eI eI)) points)), .im (eI size), .ow (oM ((eD eS) called)), .im (eB ismore), .im (eS one), .im (eS other), .un, .un]) (so_if (et_and (et_test (ev_ltS (v_dget (f := eS) hc.1 (ev_varO (i := 2) rfl) (ev_var (i := 5) rfl)) (v_dget (f := eS) hc.2.1 (ev_varO (i := 2) rfl) (ev_var (i := 4) rfl)))) fun z => (et_B (v_near (hc.2.2 z).2.2 (ea_cons (v_dget (f := (eP eI eI)) (hc.2.2 z).1 (ev_bl (ev_varR (i := 0) rfl)) (ev_var (i := 4) rfl)) (ea_cons (v_dget (f := (eP eI eI)) (hc.2.2 z).2.1 (ev_bl (ev_varR (i := 0) rfl)) (ev_var (i := 5) rfl)) (ea_cons (ev_var (i := 1) rfl) ea_nil)))))) (fun hb => ?_) fun hb => ?_) fun s => ?_
        · refine so_gd fun hc => ?_
          refine so_dput (f := eS) 2 rfl (v_dget (f := eS) hc.1 (ev_varO (i := 2) rfl) (ev_var (i := 5) rfl)) (ev_var (i := 4) rfl) hc.2 fun called => ?_
          change Sq K B _ _ [.br (oB ((eD (eP eI eI)) points)), .im (eI size), .ow (oM ((eD eS) called)), .im (eB ismore), .im (eS one), .im (eS other), .un, .un] _ _ _
          refine so_asg (i := 3) eB ev_bool fun ismore => ?_
          change Sq K B _ _ [.br (oB ((eD (eP eI eI)) points)), .im (eI size), .ow (oM ((eD eS) called)), .im (eB ismore), .im (eS one), .im (eS other), .un, .un] _ _ _
          exact so_nx (.eq (.eq (.eq (.eq (.eq (.eq (.eq (.eq .nil))))))))
        · exact so_nx (.eq (.eq (.eq (.eq (.eq (.eq (.eq (.eq .nil))))))))
        · obtain ⟨called, ismore⟩ := s
          change Sq K B _ _ [.br (oB ((eD (eP eI eI)) points)), .im (eI size), .ow (oM ((eD eS) called)), .im (eB ismore), .im (eS one), .im (eS other), .un, .un] _ _ _
          exact so_nx (.eq (.eq (.eq (.eq (.eq (.un (.eq (.eq .nil))))))))
      · obtain ⟨called, ismore⟩ := s
        change Sq K B _ _ [.br (oB ((eD (eP eI eI)) points)), .im (eI size), .ow (oM ((eD eS) called)), .im (eB ismore), .im (eS one), .un, .un, .un] _ _ _
        exact so_nx (.eq (.eq (.eq (.eq (.un (.eq (.eq (.eq .nil))))))))
    · obtain ⟨called, ismore⟩ := s
      change Sq K B _ _ [.br (oB ((eD (eP eI eI)) points)), .im (eI size), .ow (oM ((eD eS) called)), .im (eB ismore), .un, .un, .un, .un] _ _ _
      exact so_nx (.eq (.eq (.eq (.eq (.eq (.eq (.eq (.eq .nil))))))))
  · obtain ⟨called, ismore⟩ := s
    change Sq K B _ _ [.br (oB ((eD (eP eI eI)) points)), .im (eI size), .ow (oM ((eD eS) called)), .im (eB ismore), .un, .un, .un, .un] _ _ _
    refine so_asgW (i := 6) (fun r : (List (Str × (List Str))) => oM ((eD (eR eS)) r)) (ev_dnew) fun found => ?_
    change Sq K B _ _ [.br (oB ((eD (eP eI eI)) points)), .im (eI size), .ow (oM ((eD eS) called)), .im (eB ismore), .un, .un, .ow (oM ((eD (eR eS)) found)), .un] _ _ _
    refine so_gd fun hc => ?_
    refine so_bind (ek1 := fun (found : (List (Str × (List Str)))) => [.br (oB ((eD (eP eI eI)) points)), .im (eI size), .ow (oM ((eD eS) called)), .im (eB ismore), .un, .un, .ow (oM ((eD (eR eS)) found)), .un]) (so_wk (.eq (.eq (.eq (.eq (.eq (.eq (.eq (.eq .nil)))))))) (so_for (js := [7]) eS (fun nameH => [eS nameH]) (EvF.w (ef_list (ev_im (v_sortedD (f := eS) hc (ev_varO (i := 2) rfl))))) (fun _ _ => eg_name) (fun nameH hx found => ?_) rfl)) fun found => ?_
    · change Sq K B _ _ [.br (oB ((eD (eP eI eI)) points)), .im (eI size), .ow (oM ((eD eS) called)), .im (eB ismore), .un, .un, .ow (oM ((eD (eR eS)) found)), .im (eS nameH)] _ _ _
      refine so_gd fun hc => ?_
      refine so_dput (f := (eR eS)) 6 rfl (v_catR (f := eS) hc.2.1 (v_dget2 (f := (eR eS)) (ev_varO (i := 6) rfl) (v_dget (f := eS) hc.1 (ev_varO (i := 2) rfl) (ev_var (i := 7) rfl)) (v_row (f := eS) (xs := ([] : (List Str))) (Nat.le_of_ble_eq_true rfl) ea_nil)) (v_row (f := eS) (xs := [nameH]) (Nat.le_of_ble_eq_true rfl) (ea_cons (ev_var (i := 7) rfl) ea_nil))) (v_dget (f := eS) hc.2.2.1 (ev_varO (i := 2) rfl) (ev_var (i := 7) rfl)) hc.2.2.2 fun found => ?_
      change Sq K B _ _ [.br (oB ((eD (eP eI eI)) points)), .im (eI size), .ow (oM ((eD eS) called)), .im (eB ismore), .un, .un, .ow (oM ((eD (eR eS)) found)), .im (eS nameH)] _ _ _
      exact so_nx (.eq (.eq (.eq (.eq (.eq (.eq (.eq (.un .nil))))))))
    · change Sq K B _ _ [.br (oB ((eD (eP eI eI)) points)), .im (eI size), .ow (oM ((eD eS) called)), .im (eB ismore), .un, .un, .ow (oM ((eD (eR eS)) found)), .un] _ _ _
      refine so_frz 6 rfl ?_
      change Sq K B _ _ [.br (oB ((eD (eP eI eI)) points)), .im (eI size), .ow (oM ((eD eS) called)), .im (eB ismore), .un, .un, .im ((eD (eR eS)) found), .un] _ _ _
      exact so_ret (ev_var (i := 6) rfl) rfl trivial (wk_rep rfl)

abbrev N__law_map : List Str := ["_law_points", "_law_more", "_law_found", "_law_names", "_law_name_here"]
theorem sc__law_map : FnScope N__law_map ["_law_points", "_law_more"] (defScope (top 37)) := ⟨rfl, rfl, rfl, by decide +kernel, rfl, by decide +kernel, by decide +kernel⟩
theorem ok__law_map (D : Df K mg "_law_map" 37) (fr : Free mg) (cf_Map_points : CF K "Map" "points") (g__law_drawn : FnAt P w K mg base 1 "_law_drawn" ["_law_cell_here", "_law_k"] (spX K S_drawn 2)) (m_Map_put : MethAt P w K mg base 3 (He.ga K "Map") "put" ["self", "name", "point"] (spM K U_Map_put en_Map_put er_Map_put oMap oMap 3)) (k_Map : MkAt P w K mg base 1 "Map" (spM K U_Map___init__ (fun _ : Unit => []) er_Map___init__ (oRaw "Map") oMap 1)) : FnAt P w K mg base 4 "_law_map" ["_law_points", "_law_more"] (spX K (SF U__law_map en__law_map er__law_map K) 2) := by
  obtain ⟨f, fd, F, hm⟩ := D
  have nd := sc__law_map.nd
  refine fn_ok F sc__law_map hm (fun _ _ _ _ _ _ us hl => match us, hl with | [_, _], _ => rfl) (by decide) fun cdv A outer s H E hr => ?_
  have tk := L2N.takes_of (X := cxOf (L2N.CX P w) P w K mg base N__law_map "_law_map" (defScope (top 37)) f cdv A outer s H E) (E := E) rfl rfl rfl rfl
  refine ⟨_, (pss_cons (ps_set (i := 2) nd rfl (by first | exact Or.inl rfl | exact Or.inr rfl) (pe_mk k_Map hr (by decide) rfl))
      (pss_cons (ps_set (i := 3) nd rfl (by first | exact Or.inl rfl | exact Or.inr rfl) (pe_callB (call_sortedD rfl) rfl fr.sorted (by decide +kernel) (pa_cons (pv 0) pa_nil)))
      (pss_cons (ps_while (passes_of rfl) (pt_cmpR (op_neD hr.units) (pv 3) (pe_lst pa_nil) (nomark _)) (pss_cons (ps_set (i := 4) nd rfl (by first | exact Or.inl rfl | exact Or.inr rfl) (pe_bm PySem.F.plainAttrs_list PySem.F.slot_list_pop PySem.F.type_list_pop mt_popAt (pv 3) (pa_cons (pe_op op_mod (pe_fn g__law_drawn hr (by decide) rfl (pa_cons (pv 1) (pa_cons (pe_callB call_len rfl fr.len (by decide +kernel) (pa_cons (pv 3) pa_nil)) pa_nil))) (pe_callB call_len rfl fr.len (by decide +kernel) (pa_cons (pv 3) pa_nil))) pa_nil)))
      (pss_cons (ps_expr (pe_mtE m_Map_put hr (by decide) cf_Map_points.c (fun σ => L2N.passAt tk σ) (pv 2) (pa_cons (pv 4) (pa_cons (pe_dget (hu_of hr) (pv 0) (pv 4) (fun _ _ => rfl)) pa_nil))))
      pss_nil)))
      (pss_cons (ps_ret (pv 2))
      pss_nil)))), fun rs res hl sp B => ?_⟩
  refine so_def (e0 := fun rs => rs.map toSl ++ List.replicate (N__law_map.length - rs.length) Sl.un) (ek := fun _ => [.un, .un, .un, .un, .un]) 5 sp (fun _ => trivial) fun a => ?_
  obtain ⟨points, more⟩ := a
  try dsimp only [cxOf]
  change Sq K B _ _ [.br (oB ((eD (eP eI eI)) points)), .im (eI more), .un, .un, .un] _ _ _
  show Sq K B _ _ _ _ _ (F__law_map points more)
  unfold F__law_map
  refine so_gd fun hc => ?_
  refine so_asgW (i := 2) oMap (v_make (Fn := U_Map___init__) hc) fun found => ?_
  change Sq K B _ _ [.br (oB ((eD (eP eI eI)) points)), .im (eI more), .ow (oMap found), .un, .un] _ _ _
  refine so_gd fun hc => ?_
  refine so_asgW (i := 3) (fun r : (List Str) => oM ((eL eS) r)) (v_sortedD (f := (eP eI eI)) hc (ev_bl (ev_varR (i := 0) rfl))) fun names => ?_
  change Sq K B _ _ [.br (oB ((eD (eP eI eI)) points)), .im (eI more), .ow (oMap found), .ow (oM ((eL eS) names)), .un] _ _ _
  refine so_bind (ek1 := fun (s : PMap × (List Str)) => match s with | (found, names) => [.br (oB ((eD (eP eI eI)) points)), .im (eI more), .ow (oMap found), .ow (oM ((eL eS) names)), .un]) (so_wk (.eq (.eq (.eq (.eq (.eq .nil))))) (so_while (fun s hc => ?_) (fun s hp hb => ?_) rfl)) fun s => ?_
  · obtain ⟨found, names⟩ := s
    exact (et_test (v_neD hc.1 hc.2 (ev_varO (i := 3) rfl) (ev_no (v_lst (f := eS) (xs := ([] : (List Str))) (Nat.le_of_ble_eq_true rfl) ea_nil))))
  · obtain ⟨found, names⟩ := s
    change Sq K B _ _ [.br (oB ((eD (eP eI eI)) points)), .im (eI more), .ow (oMap found), .ow (oM ((eL eS) names)), .un] _ _ _
    refine so_gd fun hc => ?_
    refine so_popAt (f := eS) 3 4 rfl (ev_mod (v_drawn hc.1 (ea_cons (ev_var (i := 1) rfl) (ea_cons (v_len (f := eS) (ev_varO (i := 3) rfl)) ea_nil))) (v_len (f := eS) (ev_varO (i := 3) rfl)) hc.2.1) hc.2.2 fun names nameH => ?_
    change Sq K B _ _ [.br (oB ((eD (eP eI eI)) points)), .im (eI more), .ow (oMap found), .ow (oM ((eL eS) names)), .im (eS nameH)] _ _ _
    refine so_gd fun hc => ?_
    refine so_callM (Fn := U_Map_put) (en := en_Map_put) (er' := er_Map_put) (env := [.br (oB ((eD (eP eI eI)) points)), .im (eI more), .ow (oMap found), .ow (oM ((eL eS) names)), .im (eS nameH)]) (g := fun z : PMap => z) (Foc.var (i := 2) (ob := oMap) (b := found) rfl) (objC_map (by decide)) ((eS nameH), ((eP eI eI) ((kget points nameH).getD default))) (ea_cons (ev_var (i := 4) rfl) (ea_cons (v_dget (f := (eP eI eI)) hc (ev_bl (ev_varR (i := 0) rfl)) (ev_var (i := 4) rfl)) ea_nil)) rfl ?_ fun found => ?_
    · exact (wk_rep rfl)
    change Sq K B _ _ [.br (oB ((eD (eP eI eI)) points)), .im (eI more), .ow (oMap found), .ow (oM ((eL eS) names)), .im (eS nameH)] _ _ _
    exact so_nx (.eq (.eq (.eq (.eq (.un .nil)))))
  · obtain ⟨found, names⟩ := s
    change Sq K B _ _ [.br (oB ((eD (eP eI eI)) points)), .im (eI more), .ow (oMap found), .ow (oM ((eL eS) names)), .un] _ _ _
    exact so_retO rfl rfl (wk_rep rfl)

abbrev N__law_tree : List Str := ["_law_points", "_law_names", "_law_size", "_law_less", "_law_some", "_law_rows", "_law_name_here", "_law_head"]
theorem sc__law_tree : FnScope N__law_tree ["_law_points", "_law_names", "_law_size"] (defScope (top 38)) := ⟨rfl, rfl, rfl, by decide +kernel, rfl, by decide +kernel, by decide +kernel⟩
theorem ok__law_tree (D : Df K mg "_law_tree" 38) (fr : Free mg) (g__law_heaps : FnAt P w K mg base 3 "_law_heaps" ["_law_points", "_law_size"] (spX K (SF U__law_heaps en__law_heaps er__law_heaps K) 2)) : ∀ n_ : Nat, FnAt P w K mg base (4 + n_) "_law_tree" ["_law_points", "_law_names", "_law_size"] (spX K (SF (U__law_tree n_) en__law_tree er__law_tree K) 3) := by
  intro n_
  induction n_ with
  | zero =>
    obtain ⟨f, fd, F, hm⟩ := D
    exact ⟨f, fd, hm, F.kp, F.bindsN (fun _ _ _ _ _ _ us hl => match us, hl with | [_, _, _], _ => rfl), fn_none fun vs H Q E h => by
      obtain ⟨F0, rs, res, hl, k0, t0, r0, s0, q⟩ := h
      exact sf_none (fun _ => rfl) s0⟩
  | succ n_ g__law_tree =>
  show FnAt P w K mg base ((4 + n_) + 1) _ _ _
  obtain ⟨f, fd, F, hm⟩ := D
  have nd := sc__law_tree.nd
  refine fn_ok F sc__law_tree hm (fun _ _ _ _ _ _ us hl => match us, hl with | [_, _, _], _ => rfl) (by decide) fun cdv A outer s H E hr => ?_
  have tk := L2N.takes_of (X := cxOf (L2N.CX P w) P w K mg base N__law_tree "_law_tree" (defScope (top 38)) f cdv A outer s H E) (E := E) rfl rfl rfl rfl
  refine ⟨_, (pss_cons (ps_for (passes_of rfl) rfl (pi_range3 rfl fr.range (pa_cons (pe_op op_sub (pv 2) pe_int) (pa_cons (pe_un un_neg pe_int) (pa_cons (pe_un un_neg pe_int) pa_nil)))) (pg_name (i := 3) nd rfl (by first | exact Or.inl rfl | exact Or.inr rfl)) (pss_cons (ps_set (i := 4) nd rfl (by first | exact Or.inl rfl | exact Or.inr rfl) (pe_callTy (call_dictP rfl) rfl fr.dict (by decide +kernel) (pa_cons (pe_lc (own := [("_law_name_here", 6)]) rfl nd (pi_tup (pv 1)) (blkOk_by (N := N__law_tree) (sc := (defScope (top 38))) (by decide +kernel)) (fun _ _ _ _ _ => (pg_name (i := 6) nd rfl (by first | exact Or.inl rfl | exact Or.inr rfl))) (fun _ _ _ _ _ => pts_nil) (fun _ _ _ _ _ => (pe_tup (pa_cons (pv 6) (pa_cons (pe_dget (hu_of hr) (pv 0) (pv 6) (fun _ _ => rfl)) pa_nil))))) pa_nil)))
      (pss_cons (ps_set (i := 5) nd rfl (by first | exact Or.inl rfl | exact Or.inr rfl) (pe_fn g__law_heaps hr (by omega) rfl (pa_cons (pv 4) (pa_cons (pv 3) pa_nil))))
      (pss_cons (ps_if (pt_cmpR op_gt (pe_callB call_lenR rfl fr.len (by decide +kernel) (pa_cons (pv 5) pa_nil)) pe_int (nomark _)) (pss_cons (ps_ret (pe_tup (pa_cons (pv 3) (pa_cons (pe_callTy call_tuple_of rfl fr.tuple (by decide +kernel) (pa_cons (pe_lc (own := [("_law_head", 7)]) rfl nd (pi_list (pe_callB (call_sortedD rfl) rfl fr.sorted (by decide +kernel) (pa_cons (pv 5) pa_nil))) (blkOk_by (N := N__law_tree) (sc := (defScope (top 38))) (by decide +kernel)) (fun _ _ _ _ _ => (pg_name (i := 7) nd rfl (by first | exact Or.inl rfl | exact Or.inr rfl))) (fun _ _ _ _ _ => pts_nil) (fun _ _ _ _ _ => (pe_fn g__law_tree hr (by omega) rfl (pa_cons (pv 0) (pa_cons (pe_dget (hu_of hr) (pv 5) (pv 7) (fun _ _ => rfl)) (pa_cons (pv 3) pa_nil)))))) pa_nil)) pa_nil))))
      pss_nil) pss_nil)
      pss_nil))))
      (pss_cons (ps_ret (pe_callTy call_tuple_of rfl fr.tuple (by decide +kernel) (pa_cons (pv 1) pa_nil)))
      pss_nil)), fun rs res hl sp B => ?_⟩
  refine so_def (e0 := fun rs => rs.map toSl ++ List.replicate (N__law_tree.length - rs.length) Sl.un) (ek := fun _ => [.un, .un, .un, .un, .un, .un, .un, .un]) 8 sp (fun _ => trivial) fun a => ?_
  obtain ⟨points, names, size⟩ := a
  try dsimp only [cxOf]
  change Sq K B _ _ [.br (oB ((eD (eP eI eI)) points)), .im ((eR eS) names), .im (eI size), .un, .un, .un, .un, .un] _ _ _
  show Sq K B _ _ _ _ _ (F__law_tree (n_ + 1) points names size)
  unfold F__law_tree
  refine so_gd fun hc => ?_
  refine so_bind (ek1 := fun (_ : Unit) => [.br (oB ((eD (eP eI eI)) points)), .im ((eR eS) names), .im (eI size), .un, .un, .un, .un, .un]) (so_wk (.eq (.eq (.eq (.eq (.eq (.eq (.eq (.eq .nil)))))))) (so_for (js := [3]) eI (fun less => [eI less]) (EvF.w (w_range3 (size.toNat) hc (ea_cons (ev_sub (ev_var (i := 2) rfl) ev_int) (ea_cons (ev_neg ev_int) (ea_cons (ev_neg ev_int) ea_nil))))) (fun _ _ => eg_name) (fun less hx _ => ?_) rfl)) fun _ => ?_
  · change Sq K B _ _ [.br (oB ((eD (eP eI eI)) points)), .im ((eR eS) names), .im (eI size), .im (eI less), .un, .un, .un, .un] _ _ _
    refine so_gd fun hc => ?_
    refine so_asg (i := 4) (eD (eP eI eI)) (ev_im (v_dictP (f := (eP eI eI)) (ev_no (v_lcA (f := eS) (g := (eP eS (eP eI eI))) (js := [6]) (fun nameH' => [eS nameH']) (fun nameH' : Str => (nameH', ((kget points nameH').getD default))) hc.1 (EvF.i (ef_tup (ev_var (i := 1) rfl))) (fun _ _ => eg_name) (by decide) (fun nameH' hx => (v_pair (ev_var (i := 6) rfl) (v_dget (f := (eP eI eI)) (hc.2 nameH' hx) (ev_bl (ev_varR (i := 0) rfl)) (ev_var (i := 6) rfl)))))))) fun some_ => ?_
    change Sq K B _ _ [.br (oB ((eD (eP eI eI)) points)), .im ((eR eS) names), .im (eI size), .im (eI less), .im ((eD (eP eI eI)) some_), .un, .un, .un] _ _ _
    refine so_gd fun hc => ?_
    refine so_asg (i := 5) (eD (eR eS)) (v_call (enr := (eD (eR eS))) (F := U__law_heaps) (en := en__law_heaps) (er' := er__law_heaps) (a := (some_, less)) hc (fun _ => rfl) (ea_cons (ev_ob (ev_var (i := 4) rfl)) (ea_cons (ev_var (i := 3) rfl) ea_nil)) (fl__law_heaps _) rfl) fun rows => ?_
    change Sq K B _ _ [.br (oB ((eD (eP eI eI)) points)), .im ((eR eS) names), .im (eI size), .im (eI less), .im ((eD (eP eI eI)) some_), .im ((eD (eR eS)) rows), .un, .un] _ _ _
    refine so_ifX (et_test (ev_gt (v_lenD (f := (eR eS)) (ev_ob (ev_var (i := 5) rfl))) ev_int)) (fun hb => ?_) fun hb => ?_
    · refine so_gd fun hc => ?_
      exact so_ret (v_pair (ev_var (i := 3) rfl) (v_tupL (f := eA) (ev_no (v_lcA (f := eS) (g := eA) (js := [7]) (fun head' => [eS head']) (fun head' : Str => (valO (F__law_tree n_ points ((kget rows head').getD default) less))) hc.2.1 (ei_list (ev_no (v_sortedD (f := (eR eS)) hc.1 (ev_ob (ev_var (i := 5) rfl))))) (fun _ _ => eg_name) (by decide) (fun head' hx => (v_call (enr := eA) (F := (U__law_tree n_)) (en := en__law_tree) (er' := er__law_tree) (a := (points, ((kget rows head').getD default), less)) (hc.2.2 head' hx).2 (fun _ => rfl) (ea_cons (ev_bl (ev_varR (i := 0) rfl)) (ea_cons (v_dget (f := (eR eS)) (hc.2.2 head' hx).1 (ev_ob (ev_var (i := 5) rfl)) (ev_var (i := 7) rfl)) (ea_cons (ev_var (i := 3) rfl) ea_nil))) (fl__law_tree _) rfl)))))) rfl trivial (wk_rep rfl)
    · exact so_nx (.eq (.eq (.eq (.un (.un (.un (.eq (.eq .nil))))))))
  · change Sq K B _ _ [.br (oB ((eD (eP eI eI)) points)), .im ((eR eS) names), .im (eI size), .un, .un, .un, .un, .un] _ _ _
    exact so_ret (v_tupR (f := eS) (ev_var (i := 1) rfl)) rfl trivial (wk_rep rfl)

abbrev N__law_ends : List Str := ["_law_tree_here", "_law_found", "_law_part"]
theorem sc__law_ends : FnScope N__law_ends ["_law_tree_here"] (defScope (top 40)) := ⟨rfl, rfl, rfl, by decide +kernel, rfl, by decide +kernel, by decide +kernel⟩
theorem ok__law_ends (D : Df K mg "_law_ends" 40) (fr : Free mg) : ∀ n_ : Nat, FnAt P w K mg base (1 + n_) "_law_ends" ["_law_tree_here"] (spX K (SF (U__law_ends n_) en__law_ends er__law_ends K) 1) := by
  intro n_
  induction n_ with
  | zero =>
    obtain ⟨f, fd, F, hm⟩ := D
    exact ⟨f, fd, hm, F.kp, F.bindsN (fun _ _ _ _ _ _ us hl => match us, hl with | [_], _ => rfl), fn_none fun vs H Q E h => by
      obtain ⟨F0, rs, res, hl, k0, t0, r0, s0, q⟩ := h
      exact sf_none (fun _ => rfl) s0⟩
  | succ n_ g__law_ends =>
  show FnAt P w K mg base ((1 + n_) + 1) _ _ _
  obtain ⟨f, fd, F, hm⟩ := D
  have nd := sc__law_ends.nd
  refine fn_ok F sc__law_ends hm (fun _ _ _ _ _ _ us hl => match us, hl with | [_], _ => rfl) (by decide) fun cdv A outer s H E hr => ?_
  have tk := L2N.takes_of (X := cxOf (L2N.CX P w) P w K mg base N__law_ends "_law_ends" (defScope (top 40)) f cdv A outer s H E) (E := E) rfl rfl rfl rfl
  refine ⟨_, (pss_cons (ps_if (PW.pt (pw_and (pt_cmpR (op_neD hr.units) (pv 0) (pe_tup pa_nil) (nomark _)) (pw_and1 (pt_val (pe_callB call_isi rfl fr.isinstance (by decide +kernel) (pa_cons (pe_ix ix_tup (pv 0) pe_int (fun _ _ => rfl)) (pa_cons (pe_bltn rfl fr.int (by decide +kernel) (show RelV (.ty "int") _ from rfl)) pa_nil))))))) (pss_cons (ps_set (i := 1) nd rfl (by first | exact Or.inl rfl | exact Or.inr rfl) (pe_lst pa_nil))
      (pss_cons (ps_for (passes_of rfl) rfl (pi_tup (pe_ix ix_tup (pv 0) pe_int (fun _ _ => rfl))) (pg_name (i := 2) nd rfl (by first | exact Or.inl rfl | exact Or.inr rfl)) (pss_cons (ps_set (i := 1) nd rfl (by first | exact Or.inl rfl | exact Or.inr rfl) (pe_op op_cat (pv 1) (pe_fn g__law_ends hr (by omega) rfl (pa_cons (pv 2) pa_nil))))
      pss_nil))
      (pss_cons (ps_ret (pv 1))
      pss_nil))) pss_nil)
      (pss_cons (ps_ret (pe_callTy call_list_of rfl fr.list (by decide +kernel) (pa_cons (pv 0) pa_nil)))
      pss_nil)), fun rs res hl sp B => ?_⟩
  refine so_def (e0 := fun rs => rs.map toSl ++ List.replicate (N__law_ends.length - rs.length) Sl.un) (ek := fun _ => [.un, .un, .un]) 3 sp (fun _ => trivial) fun treeH => ?_
  try dsimp only [cxOf]
  change Sq K B _ _ [.im ((eR eA) treeH), .un, .un] _ _ _
  show Sq K B _ _ _ _ _ (F__law_ends (n_ + 1) treeH)
  rw [F__law_ends.eq_2]
  refine so_gd fun hc => ?_
  refine so_ifX (et_and (et_test (v_neD hc.1 hc.2.1 (ev_ob (ev_var (i := 0) rfl)) (ev_ob (v_row (f := eA) (xs := ([] : (List NM.D))) (Nat.le_of_ble_eq_true rfl) ea_nil)))) fun z => (et_B (ev_isInt (ea_cons (v_ixR (f := eA) (hc.2.2 z) (ev_var (i := 0) rfl) ev_int) (ea_cons ev_cst ea_nil))))) (fun hb => ?_) fun hb => ?_
  · refine so_asg (i := 1) (eL eS) (ev_im (v_lst (f := eS) (xs := ([] : (List Str))) (Nat.le_of_ble_eq_true rfl) ea_nil)) fun found => ?_
    change Sq K B _ _ [.im ((eR eA) treeH), .im ((eL eS) found), .un] _ _ _
    refine so_gd fun hc => ?_
    refine so_bind (ek1 := fun (found : (List Str)) => [.im ((eR eA) treeH), .im ((eL eS) found), .un]) (so_wk (.eq (.eq (.eq .nil))) (so_for (js := [2]) eA (fun part => [eA part]) (EvF.w (ef_tup (v_unE (f := (eR eA)) hc.2 (v_ixR (f := eA) hc.1 (ev_var (i := 0) rfl) ev_int)))) (fun _ _ => eg_name) (fun part hx found => ?_) rfl)) fun found => ?_
    · change Sq K B _ _ [.im ((eR eA) treeH), .im ((eL eS) found), .im (eA part)] _ _ _
      refine so_gd fun hc => ?_
      refine so_asg (i := 1) (eL eS) (ev_im (v_cat (f := eS) hc.2.2 (ev_ob (ev_var (i := 1) rfl)) (ev_ob (v_call (enr := (eL eS)) (F := (U__law_ends n_)) (en := en__law_ends) (er' := er__law_ends) (a := (unE (eR eA) part)) hc.2.1 (fun _ => rfl) (ea_cons (v_unE (f := (eR eA)) hc.1 (ev_var (i := 2) rfl)) ea_nil) (fl__law_ends _) rfl)))) fun found => ?_
      change Sq K B _ _ [.im ((eR eA) treeH), .im ((eL eS) found), .im (eA part)] _ _ _
      exact so_nx (.eq (.eq (.un .nil)))
    · change Sq K B _ _ [.im ((eR eA) treeH), .im ((eL eS) found), .un] _ _ _
      exact so_ret (ev_var (i := 1) rfl) rfl trivial (wk_rep rfl)
  · refine so_gd fun hc => ?_
    exact so_ret (ev_im (v_castL (f := eS) hc (v_listR (f := eA) (ev_var (i := 0) rfl)))) rfl trivial (wk_rep rfl)

end
end NM
namespace NM
open PySem PySem.Spec PyProof.Rows L2
variable [Tbs]
section
variable {P : Program} {w : World} {K : PySem.W.Frag} {mg : Str → Option Value} {base : Heap}
abbrev N_law : List Str := ["_law_script", "_law_k", "_law_more", "_law_points", "_law_one", "_law_rows", "_law_told", "_law_flat", "_law_tree_here", "_law_size", "_law_head", "_law_some", "_law_at", "_law_name_here", "_law_due", "_law_its"]
theorem sc_law : FnScope N_law ["_law_script"] (defScope (top 41)) := ⟨rfl, rfl, rfl, by decide +kernel, rfl, by decide +kernel, by decide +kernel⟩
theorem ok_law (fr : Free mg) {f c : Addr} {dV kV doc pm ct oc : Value} {an od : Option Addr} {osl : Array (Option Value)}
    (lk : K.lookup f = some ⟨oc, od, .func (PySem.W.fnOf "law" "law" (defArgs (top 41)) (defBody (top 41)) (defScope (top 41)) dV kV doc pm an (.ref c) ct), osl⟩) (hcd : PySem.W.codeIn K (.ref c) "law" = true)
    (g__law_cell : FnAt P w K mg base 1 "_law_cell" ["_law_script", "_law_k"] (spX K S_cell 2)) (g__law_drawn : FnAt P w K mg base 1 "_law_drawn" ["_law_cell_here", "_law_k"] (spX K S_drawn 2)) (g__law_ends : FnAt P w K mg base 17 "_law_ends" ["_law_tree_here"] (spX K (SF (U__law_ends 16) en__law_ends er__law_ends K) 1)) (g__law_far : FnAt P w K mg base 1 "_law_far" ["_law_one", "_law_other"] (spX K S_lfar 2)) (g__law_few : FnAt P w K mg base 2 "_law_few" ["_law_more", "_law_many"] (spX K (SF U__law_few en__law_few er__law_few K) 2)) (g__law_heaps : FnAt P w K mg base 3 "_law_heaps" ["_law_points", "_law_size"] (spX K (SF U__law_heaps en__law_heaps er__law_heaps K) 2)) (g__law_map : FnAt P w K mg base 4 "_law_map" ["_law_points", "_law_more"] (spX K (SF U__law_map en__law_map er__law_map K) 2)) (g__law_tree : FnAt P w K mg base 20 "_law_tree" ["_law_points", "_law_names", "_law_size"] (spX K (SF (U__law_tree 16) en__law_tree er__law_tree K) 3)) (g_trees : FnAt P w K mg base 24 "trees" ["one"] (spX K (SF U_trees en_trees er_trees K) 1)) (g_widest : FnAt P w K mg base 6 "widest" ["one", "head", "size"] (spX K (SF U_widest en_widest er_widest K) 3)) :
    FnOk P w K mg base (L2N.CX P w) 27 f (PySem.W.fnOf "law" "law" (defArgs (top 41)) (defBody (top 41)) (defScope (top 41)) dV kV doc pm an (.ref c) ct) ["_law_script"] (spX K (SF U_law en_law er_law K) 1) := by
  have nd := sc_law.nd
  refine fn_okC (ps := ["_law_script"]) lk hcd sc_law (by decide) fun A outer s H E hr => ?_
  have hcode : (cxOf (L2N.CX P w) P w K mg base N_law "law" (defScope (top 41)) f (.ref c) A outer s H E).env.code = .ref c := rfl
  have tk := L2N.takes_of (X := cxOf (L2N.CX P w) P w K mg base N_law "law" (defScope (top 41)) f (.ref c) A outer s H E) (E := E) rfl rfl rfl rfl
  refine ⟨_, (pss_cons (ps_for (passes_of rfl) rfl (pi_range1 rfl fr.range (pa_cons (pe_callB (call_max2 rfl) rfl fr.max (by decide +kernel) (pa_cons pe_int (pa_cons (pe_callB (call_min2 rfl) rfl fr.min (by decide +kernel) (pa_cons pe_int (pa_cons (pe_callB call_len rfl fr.len (by decide +kernel) (pa_cons (pv 0) pa_nil)) pa_nil))) pa_nil))) pa_nil)) (pg_name (i := 1) nd rfl (by first | exact Or.inl rfl | exact Or.inr rfl)) (pss_cons (ps_set (i := 2) nd rfl (by first | exact Or.inl rfl | exact Or.inr rfl) (pe_fn g__law_drawn hr (by decide) rfl (pa_cons (pe_fn g__law_cell hr (by decide) rfl (pa_cons (pv 0) (pa_cons (pv 1) pa_nil))) (pa_cons (pv 1) pa_nil))))
      (pss_cons (ps_set (i := 3) nd rfl (by first | exact Or.inl rfl | exact Or.inr rfl) (pe_fn g__law_few hr (by decide) rfl (pa_cons (pv 2) (pa_cons pe_int pa_nil))))
      (pss_cons (ps_set (i := 4) nd rfl (by first | exact Or.inl rfl | exact Or.inr rfl) (pe_fn g__law_map hr (by decide) rfl (pa_cons (pv 3) (pa_cons (pv 2) pa_nil))))
      (pss_cons (ps_set (i := 5) nd rfl (by first | exact Or.inl rfl | exact Or.inr rfl) (pe_fn g__law_heaps hr (by decide) rfl (pa_cons (pv 3) (pa_cons pe_int pa_nil))))
      (pss_cons (ps_set (i := 6) nd rfl (by first | exact Or.inl rfl | exact Or.inr rfl) (pe_fn g_trees hr (by decide) rfl (pa_cons (pv 4) pa_nil)))
      (pss_cons (ps_if (pt_cmpR (op_neD hr.units) (pv 6) (pe_lc (own := [("_law_head", 10)]) rfl nd (pi_list (pe_callB (call_sortedD rfl) rfl fr.sorted (by decide +kernel) (pa_cons (pv 5) pa_nil))) (blkOk_by (N := N_law) (sc := (defScope (top 41))) (by decide +kernel)) (fun _ _ _ _ _ => (pg_name (i := 10) nd rfl (by first | exact Or.inl rfl | exact Or.inr rfl))) (fun _ _ _ _ _ => pts_nil) (fun _ _ _ _ _ => (pe_fn g__law_tree hr (by decide) rfl (pa_cons (pv 3) (pa_cons (pe_dget (hu_of hr) (pv 5) (pv 10) (fun _ _ => rfl)) (pa_cons pe_int pa_nil)))))) (nomark _)) (pss_cons (ps_ret pe_bl)
      pss_nil) pss_nil)
      (pss_cons (ps_set (i := 7) nd rfl (by first | exact Or.inl rfl | exact Or.inr rfl) (pe_lst pa_nil))
      (pss_cons (ps_for (passes_of rfl) rfl (pi_list (pv 6)) (pg_name (i := 8) nd rfl (by first | exact Or.inl rfl | exact Or.inr rfl)) (pss_cons (ps_set (i := 7) nd rfl (by first | exact Or.inl rfl | exact Or.inr rfl) (pe_op op_cat (pv 7) (pe_fn g__law_ends hr (by decide) rfl (pa_cons (pv 8) pa_nil))))
      pss_nil))
      (pss_cons (ps_if (pt_cmpR (op_neD hr.units) (pe_callB (cr_sortedG hr.units) rfl fr.sorted (by decide +kernel) (pa_cons (pv 7) pa_nil)) (pe_callB (call_sortedD rfl) rfl fr.sorted (by decide +kernel) (pa_cons (pv 3) pa_nil)) (nomark _)) (pss_cons (ps_ret pe_bl)
      pss_nil) pss_nil)
      (pss_cons (ps_for (passes_of rfl) rfl (pi_list (pe_lst (pa_cons pe_int (pa_cons (pe_op op_mod (pe_op op_fdiv (pv 2) pe_int) pe_int) (pa_cons (pe_op op_mod (pe_op op_fdiv (pv 2) pe_int) pe_int) pa_nil))))) (pg_name (i := 9) nd rfl (by first | exact Or.inl rfl | exact Or.inr rfl)) (pss_cons (ps_set (i := 5) nd rfl (by first | exact Or.inl rfl | exact Or.inr rfl) (pe_fn g__law_heaps hr (by decide) rfl (pa_cons (pv 3) (pa_cons (pv 9) pa_nil))))
      (pss_cons (ps_lkX (fun W tk => (ps_for (passes_of rfl) rfl (pi_keys (pv 5)) (pg_name (i := 10) nd rfl (by first | exact Or.inl rfl | exact Or.inr rfl)) (pss_cons (ps_set (i := 11) nd rfl (by first | exact Or.inl rfl | exact Or.inr rfl) (pe_lst pa_nil))
      (pss_cons (ps_for (passes_of rfl) rfl (pi_enumT rfl fr.enumerate (pa_cons (pe_dget (hu_of hr) (pv 5) (pv 10) (fun _ _ => rfl)) pa_nil)) (pg_tup rfl (pgs_cons (pg_name (i := 12) nd rfl (by first | exact Or.inl rfl | exact Or.inr rfl)) (pgs_cons (pg_name (i := 13) nd rfl (by first | exact Or.inl rfl | exact Or.inr rfl)) pgs_nil))) (pss_cons (ps_set (i := 11) nd rfl (by first | exact Or.inl rfl | exact Or.inr rfl) (pe_op op_cat (pv 11) (pe_lc (own := [("_law_its", 15)]) rfl nd (pi_tup (pe_slice sl_tupA (pe_dget (hu_of hr) (pv 5) (pv 10) (fun _ _ => rfl)) (po_some (pe_op op_add (pv 12) pe_int)) po_none)) (blkOk_by (N := N_law) (sc := (defScope (top 41))) (by decide +kernel)) (fun _ _ _ _ _ => (pg_name (i := 15) nd rfl (by first | exact Or.inl rfl | exact Or.inr rfl))) (fun _ _ _ _ _ => pts_nil) (fun _ _ _ _ _ => (pe_tup (pa_cons (pe_op op_sub pe_int (pe_fn g__law_far hr (by decide) rfl (pa_cons (pe_dget (hu_of hr) (pv 3) (pv 13) (fun _ _ => rfl)) (pa_cons (pe_dget (hu_of hr) (pv 3) (pv 15) (fun _ _ => rfl)) pa_nil)))) (pa_cons (pv 13) (pa_cons (pv 15) pa_nil))))))))
      pss_nil))
      (pss_cons (ps_set (i := 14) nd rfl (by first | exact Or.inl rfl | exact Or.inr rfl) (pe_tup (pa_cons (pv 10) (pa_cons (pv 10) (pa_cons pe_int pa_nil)))))
      (pss_cons (ps_if (PW.pt (pw_and (pt_cmpR (op_neD hr.units) (pv 11) (pe_lst pa_nil) (nomark _)) (pw_and1 (pt_cmpR op_lt (pe_ix ix_tup (pe_ix ix_list (pe_callB (cr_sortedG hr.units) rfl fr.sorted (by decide +kernel) (pa_cons (pv 11) pa_nil)) pe_int (fun _ _ => rfl)) pe_int (fun _ _ => rfl)) pe_int (nomark _))))) (pss_cons (ps_set (i := 14) nd rfl (by first | exact Or.inl rfl | exact Or.inr rfl) (pe_op op_catA (pe_slice sl_tupA (pe_ix ix_list (pe_callB (cr_sortedG hr.units) rfl fr.sorted (by decide +kernel) (pa_cons (pv 11) pa_nil)) pe_int (fun _ _ => rfl)) (po_some pe_int) po_none) (pe_tup (pa_cons (pe_op op_sub pe_int (pe_ix ix_tup (pe_ix ix_list (pe_callB (cr_sortedG hr.units) rfl fr.sorted (by decide +kernel) (pa_cons (pv 11) pa_nil)) pe_int (fun _ _ => rfl)) pe_int (fun _ _ => rfl))) pa_nil))))
      pss_nil) pss_nil)
      (pss_cons (ps_if (pt_cmpR (op_neD hr.units) (pe_fn g_widest hr (by decide) rfl (pa_cons (pv 4) (pa_cons (pv 10) (pa_cons (pv 9) pa_nil)))) (pv 14) (nomark _)) (pss_cons (ps_ret pe_bl)
      pss_nil) pss_nil)
      pss_nil))))))) tk)
      pss_nil)))
      (pss_cons (ps_expr (pe_bm PySem.F.plainAttrs_list PySem.F.slot_list_append PySem.F.type_list_append mt_append (pv 6) (pa_cons pe_non pa_nil)))
      (pss_cons (ps_if (pt_cmpR (show OpR _ _ (rInD K) from op_inD (room65 hr)) pe_non (pe_fn g_trees hr (by decide) rfl (pa_cons (pv 4) pa_nil)) (by rfl)) (pss_cons (ps_ret pe_bl)
      pss_nil) pss_nil)
      pss_nil)))))))))))))
      (pss_cons (ps_ret pe_bl)
      pss_nil)), fun rs res hl sp B => ?_⟩
  refine so_def (e0 := fun rs => rs.map toSl ++ List.replicate (N_law.length - rs.length) Sl.un) (ek := fun _ => [.un, .un, .un, .un, .un, .un, .un, .un, .un, .un, .un, .un, .un, .un, .un, .un]) 16 sp (fun _ => trivial) fun script => ?_
  try dsimp only [cxOf]
  change Sq K B _ _ [.br (oS script), .un, .un, .un, .un, .un, .un, .un, .un, .un, .un, .un, .un, .un, .un, .un] _ _ _
  show Sq K B _ _ _ _ _ (F_law script)
  unfold F_law
  refine so_gd fun hc => ?_
  refine so_bind (ek1 := fun (_ : Unit) => [.br (oS script), .un, .un, .un, .un, .un, .un, .un, .un, .un, .un, .un, .un, .un, .un, .un]) (so_wk (.eq (.eq (.eq (.eq (.eq (.eq (.eq (.eq (.eq (.eq (.eq (.eq (.eq (.eq (.eq (.eq .nil)))))))))))))))) (so_for (js := [1]) eI (fun k => [eI k]) (EvF.w (w_range1 hc (ea_cons (v_max2 ev_int (v_min2 ev_int (ev_lenSc (ea_cons (ev_bl (ev_varR (i := 0) rfl)) ea_nil)))) ea_nil))) (fun _ _ => eg_name) (fun k hx _ => ?_) rfl)) fun _ => ?_
  · change Sq K B _ _ [.br (oS script), .im (eI k), .un, .un, .un, .un, .un, .un, .un, .un, .un, .un, .un, .un, .un, .un] _ _ _
    refine so_gd fun hc => ?_
    refine so_asg (i := 2) eI (v_drawn hc.2 (ea_cons (v_cell hc.1 (ea_cons (ev_bl (ev_varR (i := 0) rfl)) (ea_cons (ev_var (i := 1) rfl) ea_nil))) (ea_cons (ev_var (i := 1) rfl) ea_nil))) fun more => ?_
    change Sq K B _ _ [.br (oS script), .im (eI k), .im (eI more), .un, .un, .un, .un, .un, .un, .un, .un, .un, .un, .un, .un, .un] _ _ _
    refine so_gd fun hc => ?_
    refine so_asg (i := 3) (eD (eP eI eI)) (v_call (enr := (eD (eP eI eI))) (F := U__law_few) (en := en__law_few) (er' := er__law_few) (a := (more, (14 : Int))) hc (fun _ => rfl) (ea_cons (ev_var (i := 2) rfl) (ea_cons ev_int ea_nil)) (fl__law_few _) rfl) fun points => ?_
    change Sq K B _ _ [.br (oS script), .im (eI k), .im (eI more), .im ((eD (eP eI eI)) points), .un, .un, .un, .un, .un, .un, .un, .un, .un, .un, .un, .un] _ _ _
    refine so_gd fun hc => ?_
    refine so_asgW (i := 4) oMap (v_callW (enr := (fun r => oMap r)) (F := U__law_map) (en := en__law_map) (er' := er__law_map) (a := (points, more)) hc (fun _ => rfl) (ea_cons (ev_ob (ev_var (i := 3) rfl)) (ea_cons (ev_var (i := 2) rfl) ea_nil)) (fl__law_map _) rfl) fun one => ?_
    change Sq K B _ _ [.br (oS script), .im (eI k), .im (eI more), .im ((eD (eP eI eI)) points), .ow (oMap one), .un, .un, .un, .un, .un, .un, .un, .un, .un, .un, .un] _ _ _
    refine so_gd fun hc => ?_
    refine so_asg (i := 5) (eD (eR eS)) (v_call (enr := (eD (eR eS))) (F := U__law_heaps) (en := en__law_heaps) (er' := er__law_heaps) (a := (points, (13 : Int))) hc (fun _ => rfl) (ea_cons (ev_ob (ev_var (i := 3) rfl)) (ea_cons ev_int ea_nil)) (fl__law_heaps _) rfl) fun rows => ?_
    change Sq K B _ _ [.br (oS script), .im (eI k), .im (eI more), .im ((eD (eP eI eI)) points), .ow (oMap one), .im ((eD (eR eS)) rows), .un, .un, .un, .un, .un, .un, .un, .un, .un, .un] _ _ _
    refine so_gd fun hc => ?_
    refine so_asgW (i := 6) (fun r : (List NM.D) => oM ((eL eA) r)) (v_callW (enr := (fun r => oM ((eL eA) r))) (F := U_trees) (en := en_trees) (er' := er_trees) (a := one) hc (fun _ => rfl) (ea_cons (ev_see (i := 4) rfl (oMap_see _)) ea_nil) (fl_trees _) rfl) fun told => ?_
    change Sq K B _ _ [.br (oS script), .im (eI k), .im (eI more), .im ((eD (eP eI eI)) points), .ow (oMap one), .im ((eD (eR eS)) rows), .ow (oM ((eL eA) told)), .un, .un, .un, .un, .un, .un, .un, .un, .un] _ _ _
    refine so_gd fun hc => ?_
    refine so_ifX (et_test (v_neD hc.2.2.2.1 hc.2.2.2.2 (ev_varO (i := 6) rfl) (ev_no (v_lcA (f := eS) (g := eA) (js := [10]) (fun head' => [eS head']) (fun head' : Str => (valO (F__law_tree 16 points ((kget rows head').getD default) (13 : Int)))) hc.2.1 (ei_list (ev_no (v_sortedD (f := (eR eS)) hc.1 (ev_ob (ev_var (i := 5) rfl))))) (fun _ _ => eg_name) (by decide) (fun head' hx => (v_call (enr := eA) (F := (U__law_tree 16)) (en := en__law_tree) (er' := er__law_tree) (a := (points, ((kget rows head').getD default), (13 : Int))) (hc.2.2.1 head' hx).2 (fun _ => rfl) (ea_cons (ev_ob (ev_var (i := 3) rfl)) (ea_cons (v_dget (f := (eR eS)) (hc.2.2.1 head' hx).1 (ev_ob (ev_var (i := 5) rfl)) (ev_var (i := 10) rfl)) (ea_cons ev_int ea_nil))) (fl__law_tree _) rfl)))))) (fun hb => ?_) fun hb => ?_
    · exact so_ret ev_bool rfl trivial (wk_rep rfl)
    · refine so_asg (i := 7) (eL eS) (ev_im (v_lst (f := eS) (xs := ([] : (List Str))) (Nat.le_of_ble_eq_true rfl) ea_nil)) fun flat => ?_
      change Sq K B _ _ [.br (oS script), .im (eI k), .im (eI more), .im ((eD (eP eI eI)) points), .ow (oMap one), .im ((eD (eR eS)) rows), .ow (oM ((eL eA) told)), .im ((eL eS) flat), .un, .un, .un, .un, .un, .un, .un, .un] _ _ _
      refine so_bind (ek1 := fun (flat : (List Str)) => [.br (oS script), .im (eI k), .im (eI more), .im ((eD (eP eI eI)) points), .ow (oMap one), .im ((eD (eR eS)) rows), .ow (oM ((eL eA) told)), .im ((eL eS) flat), .un, .un, .un, .un, .un, .un, .un, .un]) (so_wk (.eq (.eq (.eq (.eq (.eq (.eq (.eq (.eq (.eq (.eq (.eq (.eq (.eq (.eq (.eq (.eq .nil)))))))))))))))) (so_forLO (f := eA) (js := [8]) 6 (fun treeH => [eA treeH]) (fun _ => rfl) (fun _ _ => eg_name) (fun w ws treeH hx flat => ?_) rfl)) fun flat => ?_
      · change Sq K B _ _ [.br (oS script), .im (eI k), .im (eI more), .im ((eD (eP eI eI)) points), .ow (oMap one), .im ((eD (eR eS)) rows), .ow (oLz w ws ((eL eA) told)), .im ((eL eS) flat), .im (eA treeH), .un, .un, .un, .un, .un, .un, .un] _ _ _
        refine so_gd fun hc => ?_
        refine so_asg (i := 7) (eL eS) (ev_im (v_cat (f := eS) hc.2.2 (ev_ob (ev_var (i := 7) rfl)) (ev_ob (v_call (enr := (eL eS)) (F := (U__law_ends 16)) (en := en__law_ends) (er' := er__law_ends) (a := (unE (eR eA) treeH)) hc.2.1 (fun _ => rfl) (ea_cons (v_unE (f := (eR eA)) hc.1 (ev_var (i := 8) rfl)) ea_nil) (fl__law_ends _) rfl)))) fun flat => ?_
        change Sq K B _ _ [.br (oS script), .im (eI k), .im (eI more), .im ((eD (eP eI eI)) points), .ow (oMap one), .im ((eD (eR eS)) rows), .ow (oLz w ws ((eL eA) told)), .im ((eL eS) flat), .im (eA treeH), .un, .un, .un, .un, .un, .un, .un] _ _ _
        exact so_nx (.eq (.eq (.eq (.eq (.eq (.eq (.eq (.eq (.un (.eq (.eq (.eq (.eq (.eq (.eq (.eq .nil))))))))))))))))
      · change Sq K B _ _ [.br (oS script), .im (eI k), .im (eI more), .im ((eD (eP eI eI)) points), .ow (oMap one), .im ((eD (eR eS)) rows), .ow (oM ((eL eA) told)), .im ((eL eS) flat), .un, .un, .un, .un, .un, .un, .un, .un] _ _ _
        refine so_gd fun hc => ?_
        refine so_ifX (et_test (v_neD hc.2.2.1 hc.2.2.2 (ev_no (v_sortedS hc.1 (ev_ob (ev_var (i := 7) rfl)))) (ev_no (v_sortedD (f := (eP eI eI)) hc.2.1 (ev_ob (ev_var (i := 3) rfl)))))) (fun hb => ?_) fun hb => ?_
        · exact so_ret ev_bool rfl trivial (wk_rep rfl)
        · refine so_bind (ek1 := fun (rows : (List (Str × (List Str)))) => [.br (oS script), .im (eI k), .im (eI more), .im ((eD (eP eI eI)) points), .ow (oMap one), .im ((eD (eR eS)) rows), .ow (oM ((eL eA) told)), .im ((eL eS) flat), .un, .un, .un, .un, .un, .un, .un, .un]) (so_wk (.eq (.eq (.eq (.eq (.eq (.eq (.eq (.eq (.eq (.eq (.eq (.eq (.eq (.eq (.eq (.eq .nil)))))))))))))))) (so_for (js := [9]) eI (fun size => [eI size]) (EvF.w (ef_list (ev_im (v_lst (f := eI) (xs := [(13 : Int), ((more / (64 : Int)) % (14 : Int)), ((more / (1024 : Int)) % (8 : Int))]) (Nat.le_of_ble_eq_true rfl) (ea_cons ev_int (ea_cons (ev_mod (ev_div (ev_var (i := 2) rfl) ev_int (by constructor <;> decide)) ev_int (by decide)) (ea_cons (ev_mod (ev_div (ev_var (i := 2) rfl) ev_int (by constructor <;> decide)) ev_int (by decide)) ea_nil))))))) (fun _ _ => eg_name) (fun size hx rows => ?_) rfl)) fun rows => ?_
          · change Sq K B _ _ [.br (oS script), .im (eI k), .im (eI more), .im ((eD (eP eI eI)) points), .ow (oMap one), .im ((eD (eR eS)) rows), .ow (oM ((eL eA) told)), .im ((eL eS) flat), .un, .im (eI size), .un, .un, .un, .un, .un, .un] _ _ _
            refine so_gd fun hc => ?_
            refine so_asg (i := 5) (eD (eR eS)) (v_call (enr := (eD (eR eS))) (F := U__law_heaps) (en := en__law_heaps) (er' := er__law_heaps) (a := (points, size)) hc (fun _ => rfl) (ea_cons (ev_ob (ev_var (i := 3) rfl)) (ea_cons (ev_var (i := 9) rfl) ea_nil)) (fl__law_heaps _) rfl) fun rows => ?_
            change Sq K B _ _ [.br (oS script), .im (eI k), .im (eI more), .im ((eD (eP eI eI)) points), .ow (oMap one), .im ((eD (eR eS)) rows), .ow (oM ((eL eA) told)), .im ((eL eS) flat), .un, .im (eI size), .un, .un, .un, .un, .un, .un] _ _ _
            refine so_bind (ek1 := fun (_ : Unit) => [.br (oS script), .im (eI k), .im (eI more), .im ((eD (eP eI eI)) points), .ow (oMap one), .im ((eD (eR eS)) rows), .ow (oM ((eL eA) told)), .im ((eL eS) flat), .un, .im (eI size), .un, .un, .un, .un, .un, .un]) (so_wk (.eq (.eq (.eq (.eq (.eq (.eq (.eq (.eq (.eq (.eq (.eq (.eq (.eq (.eq (.eq (.eq .nil)))))))))))))))) (so_forKT (f := (eR eS)) (js := [10]) (fun head => [eS head]) (ed_var (i := 5) rfl) (fun _ => eg_name) (fun W head hx _ => ?_) rfl)) fun _ => ?_
            · change Sq K B _ _ [.br (oS script), .im (eI k), .im (eI more), .im ((eD (eP eI eI)) points), .ow (oMap one), .im ((eD (eR eS)) rows), .ow (oM ((eL eA) told)), .im ((eL eS) flat), .un, .im (eI size), .im (eS head), .un, .un, .un, .un, .un] _ _ _
              refine so_asg (i := 11) (eL (e3 eI eS eS)) (ev_im (v_lst (f := (e3 eI eS eS)) (xs := ([] : (List (Int × Str × Str)))) (Nat.le_of_ble_eq_true rfl) ea_nil)) fun some_ => ?_
              change Sq K B _ _ [.br (oS script), .im (eI k), .im (eI more), .im ((eD (eP eI eI)) points), .ow (oMap one), .im ((eD (eR eS)) rows), .ow (oM ((eL eA) told)), .im ((eL eS) flat), .un, .im (eI size), .im (eS head), .im ((eL (e3 eI eS eS)) some_), .un, .un, .un, .un] _ _ _
              refine so_gd fun hc => ?_
              refine so_bind (ek1 := fun (some_ : (List (Int × Str × Str))) => [.br (oS script), .im (eI k), .im (eI more), .im ((eD (eP eI eI)) points), .ow (oMap one), .im ((eD (eR eS)) rows), .ow (oM ((eL eA) told)), .im ((eL eS) flat), .un, .im (eI size), .im (eS head), .im ((eL (e3 eI eS eS)) some_), .un, .un, .un, .un]) (so_wk (.eq (.eq (.eq (.eq (.eq (.eq (.eq (.eq (.eq (.eq (.eq (.eq (.eq (.eq (.eq (.eq .nil)))))))))))))))) (so_for (js := [12, 13]) (eP eI eS) (fun x_at_ => [eI x_at_.1, eS x_at_.2]) (EvF.w (w_enumT (f := eS) (v_dget (f := (eR eS)) hc (ev_ob (ev_var (i := 5) rfl)) (ev_var (i := 10) rfl)))) (fun _ _ => eg_two) (fun x_at_ hx some_ => ?_) rfl)) fun some_ => ?_
              · change Sq K B _ _ [.br (oS script), .im (eI k), .im (eI more), .im ((eD (eP eI eI)) points), .ow (oMap one), .im ((eD (eR eS)) rows), .ow (oM ((eL eA) told)), .im ((eL eS) flat), .un, .im (eI size), .im (eS head), .im ((eL (e3 eI eS eS)) some_), .im (eI x_at_.1), .im (eS x_at_.2), .un, .un] _ _ _
                refine so_gd fun hc => ?_
                refine so_asg (i := 11) (eL (e3 eI eS eS)) (ev_im (v_cat (f := (e3 eI eS eS)) hc.2.2.2 (ev_ob (ev_var (i := 11) rfl)) (ev_no (v_lcA (f := eS) (g := (e3 eI eS eS)) (js := [15]) (fun its' => [eS its']) (fun its' : Str => (((0 : Int) - (chebP ((kget points x_at_.2).getD default) ((kget points its').getD default))), x_at_.2, its')) hc.2.1 (EvF.i (ef_tup (v_slR (f := eS) (v_dget (f := (eR eS)) hc.1 (ev_ob (ev_var (i := 5) rfl)) (ev_var (i := 10) rfl)) (eo_some (ev_add (ev_var (i := 12) rfl) ev_int)) eo_none))) (fun _ _ => eg_name) (by decide) (fun its' hx => (v_trip (ev_sub ev_int (ev_call (ea_cons (v_dget (f := (eP eI eI)) (hc.2.2.1 its' hx).1 (ev_ob (ev_var (i := 3) rfl)) (ev_var (i := 13) rfl)) (ea_cons (v_dget (f := (eP eI eI)) (hc.2.2.1 its' hx).2 (ev_ob (ev_var (i := 3) rfl)) (ev_var (i := 15) rfl)) ea_nil)) flat2 (S_lfar.mk ((kget points x_at_.2).getD default).1 ((kget points x_at_.2).getD default).2 ((kget points its').getD default).1 ((kget points its').getD default).2) trivial)) (ev_var (i := 13) rfl) (ev_var (i := 15) rfl))))))) fun some_ => ?_
                change Sq K B _ _ [.br (oS script), .im (eI k), .im (eI more), .im ((eD (eP eI eI)) points), .ow (oMap one), .im ((eD (eR eS)) rows), .ow (oM ((eL eA) told)), .im ((eL eS) flat), .un, .im (eI size), .im (eS head), .im ((eL (e3 eI eS eS)) some_), .im (eI x_at_.1), .im (eS x_at_.2), .un, .un] _ _ _
                exact so_nx (.eq (.eq (.eq (.eq (.eq (.eq (.eq (.eq (.eq (.eq (.eq (.eq (.un (.un (.eq (.eq .nil))))))))))))))))
              · change Sq K B _ _ [.br (oS script), .im (eI k), .im (eI more), .im ((eD (eP eI eI)) points), .ow (oMap one), .im ((eD (eR eS)) rows), .ow (oM ((eL eA) told)), .im ((eL eS) flat), .un, .im (eI size), .im (eS head), .im ((eL (e3 eI eS eS)) some_), .un, .un, .un, .un] _ _ _
                refine so_asg (i := 14) (e3 eS eS eI) (v_trip (ev_var (i := 10) rfl) (ev_var (i := 10) rfl) ev_int) fun due => ?_
                change Sq K B _ _ [.br (oS script), .im (eI k), .im (eI more), .im ((eD (eP eI eI)) points), .ow (oMap one), .im ((eD (eR eS)) rows), .ow (oM ((eL eA) told)), .im ((eL eS) flat), .un, .im (eI size), .im (eS head), .im ((eL (e3 eI eS eS)) some_), .un, .un, .im ((e3 eS eS eI) due), .un] _ _ _
                refine so_gd fun hc => ?_
                refine so_bind (ek1 := fun (due : (Str × Str × Int)) => [.br (oS script), .im (eI k), .im (eI more), .im ((eD (eP eI eI)) points), .ow (oMap one), .im ((eD (eR eS)) rows), .ow (oM ((eL eA) told)), .im ((eL eS) flat), .un, .im (eI size), .im (eS head), .im ((eL (e3 eI eS eS)) some_), .un, .un, .im ((e3 eS eS eI) due), .un]) (so_if (et_and (et_test (v_neD hc.1 hc.2.1 (ev_ob (ev_var (i := 11) rfl)) (ev_no (v_lst (f := (e3 eI eS eS)) (xs := ([] : (List (Int × Str × Str)))) (Nat.le_of_ble_eq_true rfl) ea_nil)))) fun z => (et_test (ev_lt (ev_ixT (ds := [eI (((L2.atI (sortedT3 some_) (0 : Int)).getD default)).1, eS (((L2.atI (sortedT3 some_) (0 : Int)).getD default)).2.1, eS (((L2.atI (sortedT3 some_) (0 : Int)).getD default)).2.2]) (i := 0) (v_ixL (f := (e3 eI eS eS)) (hc.2.2 z).2 (ev_no (v_sortedT3 (hc.2.2 z).1 (ev_ob (ev_var (i := 11) rfl)))) ev_int) ev_int (by rfl)) ev_int))) (fun hb => ?_) fun hb => ?_) fun due => ?_
                · refine so_gd fun hc => ?_
                  refine so_asg (i := 14) (e3 eS eS eI) (v_cat21 (g := eS) (k := eS) (f := eI) (p := ((((L2.atI (sortedT3 some_) (0 : Int)).getD default)).2.1, (((L2.atI (sortedT3 some_) (0 : Int)).getD default)).2.2)) (v_sl3 (f := eI) (g := eS) (k := eS) (p := ((L2.atI (sortedT3 some_) (0 : Int)).getD default)) (v_ixL (f := (e3 eI eS eS)) hc.2.1 (ev_no (v_sortedT3 hc.1 (ev_ob (ev_var (i := 11) rfl)))) ev_int) (eo_some ev_int) eo_none) (v_row (f := eI) (xs := [((0 : Int) - (((L2.atI (sortedT3 some_) (0 : Int)).getD default)).1)]) (Nat.le_of_ble_eq_true rfl) (ea_cons (ev_sub ev_int (ev_ixT (ds := [eI (((L2.atI (sortedT3 some_) (0 : Int)).getD default)).1, eS (((L2.atI (sortedT3 some_) (0 : Int)).getD default)).2.1, eS (((L2.atI (sortedT3 some_) (0 : Int)).getD default)).2.2]) (i := 0) (v_ixL (f := (e3 eI eS eS)) hc.2.2.2 (ev_no (v_sortedT3 hc.2.2.1 (ev_ob (ev_var (i := 11) rfl)))) ev_int) ev_int (by rfl))) ea_nil))) fun due => ?_
                  change Sq K B _ _ [.br (oS script), .im (eI k), .im (eI more), .im ((eD (eP eI eI)) points), .ow (oMap one), .im ((eD (eR eS)) rows), .ow (oM ((eL eA) told)), .im ((eL eS) flat), .un, .im (eI size), .im (eS head), .im ((eL (e3 eI eS eS)) some_), .un, .un, .im ((e3 eS eS eI) due), .un] _ _ _
                  exact so_nx (.eq (.eq (.eq (.eq (.eq (.eq (.eq (.eq (.eq (.eq (.eq (.eq (.eq (.eq (.eq (.eq .nil))))))))))))))))
                · exact so_nx (.eq (.eq (.eq (.eq (.eq (.eq (.eq (.eq (.eq (.eq (.eq (.eq (.eq (.eq (.eq (.eq .nil))))))))))))))))
                · change Sq K B _ _ [.br (oS script), .im (eI k), .im (eI more), .im ((eD (eP eI eI)) points), .ow (oMap one), .im ((eD (eR eS)) rows), .ow (oM ((eL eA) told)), .im ((eL eS) flat), .un, .im (eI size), .im (eS head), .im ((eL (e3 eI eS eS)) some_), .un, .un, .im ((e3 eS eS eI) due), .un] _ _ _
                  refine so_gd fun hc => ?_
                  refine so_ifX (et_test (v_neD hc.2.1 hc.2.2 (ev_ob (v_call (enr := (e3 eS eS eI)) (F := U_widest) (en := en_widest) (er' := er_widest) (a := (one, (eS head), (eI size))) hc.1 (fun _ => rfl) (ea_cons (ev_see (i := 4) rfl (oMap_see _)) (ea_cons (ev_var (i := 10) rfl) (ea_cons (ev_var (i := 9) rfl) ea_nil))) (fl_widest _) rfl)) (ev_ob (ev_var (i := 14) rfl)))) (fun hb => ?_) fun hb => ?_
                  · exact so_ret ev_bool rfl trivial (wk_rep rfl)
                  · exact so_nx (.eq (.eq (.eq (.eq (.eq (.eq (.eq (.eq (.eq (.eq (.un (.un (.eq (.eq (.un (.eq .nil))))))))))))))))
            · change Sq K B _ _ [.br (oS script), .im (eI k), .im (eI more), .im ((eD (eP eI eI)) points), .ow (oMap one), .im ((eD (eR eS)) rows), .ow (oM ((eL eA) told)), .im ((eL eS) flat), .un, .im (eI size), .un, .un, .un, .un, .un, .un] _ _ _
              exact so_nx (.eq (.eq (.eq (.eq (.eq (.eq (.eq (.eq (.eq (.un (.eq (.eq (.eq (.eq (.eq (.eq .nil))))))))))))))))
          · change Sq K B _ _ [.br (oS script), .im (eI k), .im (eI more), .im ((eD (eP eI eI)) points), .ow (oMap one), .im ((eD (eR eS)) rows), .ow (oM ((eL eA) told)), .im ((eL eS) flat), .un, .un, .un, .un, .un, .un, .un, .un] _ _ _
            refine so_gd fun hc => ?_
            refine so_append (f := eA) 6 rfl ev_non hc fun told => ?_
            change Sq K B _ _ [.br (oS script), .im (eI k), .im (eI more), .im ((eD (eP eI eI)) points), .ow (oMap one), .im ((eD (eR eS)) rows), .ow (oM ((eL eA) told)), .im ((eL eS) flat), .un, .un, .un, .un, .un, .un, .un, .un] _ _ _
            refine so_gd fun hc => ?_
            refine so_ifX (et_test (v_inN hc.2 (ev_ob ev_non) (ev_no (v_callW (enr := (fun r => oM ((eL eA) r))) (F := U_trees) (en := en_trees) (er' := er_trees) (a := one) hc.1 (fun _ => rfl) (ea_cons (ev_see (i := 4) rfl (oMap_see _)) ea_nil) (fl_trees _) rfl)))) (fun hb => ?_) fun hb => ?_
            · exact so_ret ev_bool rfl trivial (wk_rep rfl)
            · exact so_nx (.eq (.un (.un (.un (.un (.un (.un (.un (.eq (.eq (.eq (.eq (.eq (.eq (.eq (.eq .nil))))))))))))))))
  · change Sq K B _ _ [.br (oS script), .un, .un, .un, .un, .un, .un, .un, .un, .un, .un, .un, .un, .un, .un, .un] _ _ _
    exact so_ret ev_bool rfl trivial (wk_rep rfl)

end
end NM
namespace NM
end NM
/-! ### the head: what is known of the top -/
namespace NMH
open PySem PySem.Spec PyProof.Rows L2 NM
def dd (x : Str) (i : Nat) : He.DefD := ⟨(x, none), x, x, defArgs (top i), defBody (top i), defScope (top i), [], []⟩
def dm (C m q : Str) (i j : Nat) : He.DefD := ⟨(C, some m), m, q, defArgs (inClass (top i) j), defBody (inClass (top i) j), defScope (inClass (top i) j), [], []⟩
def fn : List He.DefD := [dd "is_count" 13, dd "is_name" 14, dd "need_name" 15, dd "need_point" 16, dd "need_size" 17, dd "reach" 18, dd "apart" 19, dd "tree_of" 21, dd "trees" 22, dd "widest" 23, dd "box_of" 25, dd "_law_cell" 30, dd "_law_drawn" 31, dd "_law_point" 32, dd "_law_far" 33, dd "_law_near" 34, dd "_law_name" 35, dd "_law_heaps" 36, dd "_law_map" 37, dd "_law_tree" 38, dd "_law_few" 39, dd "_law_ends" 40, dd "law" 41] ++ [dm "Map" "__init__" "Map.__init__" 28 0, dm "Map" "point" "Map.point" 28 2, dm "Map" "join" "Map.join" 28 4, dm "Map" "put" "Map.put" 28 3, dm "Map" "names_at" "Map.names_at" 28 7, dm "Map" "heaps" "Map.heaps" 28 8, dm "Map" "names" "Map.names" 28 11, dm "Map" "opened" "Map.opened" 28 14]
def names5 : List Str := ["BadName", "BadPoint", "BadSize", "BadHeap"]
def fa : List He.Fa := frees.map He.Fa.free ++ [.glo "is_count", .glo "is_name", .glo "need_name", .glo "need_point", .glo "need_size", .glo "reach", .glo "apart", .glo "tree_of", .glo "trees", .glo "widest", .glo "box_of", .glo "_law_cell", .glo "_law_drawn", .glo "_law_point", .glo "_law_far", .glo "_law_near", .glo "_law_name", .glo "_law_heaps", .glo "_law_map", .glo "_law_tree", .glo "_law_few", .glo "_law_ends", .glo "law", .glo "MarkError", .glo "BadName", .glo "BadPoint", .glo "BadSize", .glo "BadHeap", .glo "Map"] ++ ([("MOST_WORD", 6), ("MOST_SIDE", 4095), ("MOST_SIZE", 13), ("MOST_MARKS", 60)] : List (Str × Int)).map (fun p => He.Fa.int p.1 p.2) ++ [.str "SMALL" "abcdefghijklmnopqrstuvwxyz", .glo "REACHES", .cls "Map", .mkr "Map", .noat "Map" "heads", .noat "Map" "points", .meth "Map" "__init__", .meth "Map" "point", .meth "Map" "join", .meth "Map" "put", .meth "Map" "names_at", .meth "Map" "heaps", .meth "Map" "names", .meth "Map" "opened"] ++ names5.map He.Fa.exc ++ (names5.map fun x => .exm x "MarkError" true)
def tf : List He.Defn := []
def excB (K : PySem.W.Frag) (D : Addr) : Bool := He.eqO (PySem.W.findIn K (.ref D) "__getattribute__") (some (some (.builtin "BaseException.__getattribute__"))) && (He.eqO (PySem.W.findIn K (.ref D) "__getattr__") (some none) && (decide (PySem.W.subIn K (.ref D) (.type "BaseException") = some true) &&
  (PySem.W.hasDictIn K D && (He.eqO (PySem.W.findIn K (.ref D) "__class__") (some (some (.builtin "object.__class__"))) && (He.eqO (PySem.W.specialIn K (.builtin "object.__class__") "__get__") (some (some (.builtin "getset_descriptor.__get__"))) &&
  (decide (PySem.W.takesIn K (.builtin "object.__class__") = some true) && decide (PySem.W.mroIn K D (.type "object") = some true)))))))
theorem excB_ok {K : PySem.W.Frag} {D : Addr} (h : excB K D = true) : ExcC K D := by
  obtain ⟨h1, h⟩ := He.ba h
  obtain ⟨h2, h⟩ := He.ba h
  obtain ⟨h3, h⟩ := He.ba h
  obtain ⟨h4, h⟩ := He.ba h
  obtain ⟨h5, h⟩ := He.ba h
  obtain ⟨h6, h⟩ := He.ba h
  obtain ⟨h7, h8⟩ := He.ba h
  exact ⟨He.eqO_ok h1, He.eqO_ok h2, of_decide_eq_true h3, h4, He.eqO_ok h5, He.eqO_ok h6, of_decide_eq_true h7, of_decide_eq_true h8⟩
def wordsB (K : PySem.W.Frag) : Bool := names5.all fun x => excB K (He.ga K x) && (decide (PySem.W.kitOne K (.ref (He.ga K x)) (.type "ValueError") = some true) && names5.all fun y => decide (PySem.W.kitOne K (.ref (He.ga K x)) (.ref (He.ga K y)) = some (decide (x = y))))
def rcs : List He.Dv := [.int 0, .int 1, .int 2, .int 4, .int 8, .int 16, .int 32, .int 64, .int 128, .int 256, .int 512, .int 1024, .int 2048, .int 4096]
def ex (K : PySem.W.Frag) : Bool := He.tupB K "REACHES" rcs && wordsB K
abbrev R : PySem.W.OpenRow := PySem.W.OpenLaw.row PySem.Challenge.rw_nearmarks_k51_whole_trees
abbrev hk : PySem.W.Hook := He.hookX 5 fa fn [] tf ex
def ob (s : PySem.W.SharedT) : He.AlX := He.obsX 5 fa fn [] tf ex (HandSHeadRun.getT s)
theorem ob_eq (s : PySem.W.SharedT) : ob s = hk.obs s.abs := He.obsX_eq (HandSHeadRun.getT_eq s)
def loose : List Str := [("_wall" : Str), ("MarkError" : Str), ("BadName" : Str), ("BadPoint" : Str), ("BadSize" : Str), ("BadHeap" : Str), ("SMALL" : Str), ("MOST_WORD" : Str), ("MOST_SIDE" : Str), ("MOST_SIZE" : Str), ("REACHES" : Str), ("is_count" : Str), ("is_name" : Str), ("need_name" : Str), ("need_point" : Str), ("need_size" : Str), ("reach" : Str), ("apart" : Str), ("tree_of" : Str), ("trees" : Str), ("widest" : Str), ("box_of" : Str), ("MOST_MARKS" : Str), ("Map" : Str), ("_law_cell" : Str), ("_law_drawn" : Str), ("_law_point" : Str), ("_law_far" : Str), ("_law_near" : Str), ("_law_name" : Str), ("_law_heaps" : Str), ("_law_map" : Str), ("_law_tree" : Str), ("_law_few" : Str), ("_law_ends" : Str)]
theorem run (w : World) : HandSHeadRun.RunEq R (PySem.W.view R.prog [41]) hk ob 4000 loose w := by
  intro os
  kernel_rfl
abbrev SPL [NM.Tbs] (K : PySem.W.Frag) : Sp := spX K (SF U_law en_law er_law K) 1
theorem facts {P : Program} {w : World} {K : PySem.W.Frag} {h : Heap} {mg : Str → Option Value} {f : Addr} (X : K.In h) (G : h.Ns mainGlobals mg) (hfa : mg ("law" : Str) = some (.ref f)) (c : He.SaysX fa fn [] tf ex w h K) :
    ∃ (fd : FuncData) (T : NM.Tbs), T.T = [] ∧ (∀ (s : Shared) (v : Value), BindsTo s fd ⟨[v], []⟩ [("_law_script", v)]) ∧
      ∀ base : Heap, K.In base → base.Ns mainGlobals mg → FnOk P w K mg base (L2N.CX P w) 27 f fd ["_law_script"] (@SPL T K) := by
  letI T0 : NM.Tbs := ⟨[]⟩
  have cd := c.t.d
  have fact : ∀ x ∈ fa, x.ok K = true := fun x hx => cd.facts hx
  have frs : Free mg := Free.of fun x hx => He.free_ok X G (fact _ (by unfold fa; simp only [List.mem_append]; exact .inl (.inl (.inl (.inl (.inl (List.mem_map.mpr ⟨x, hx, rfl⟩)))))))
  have glo : ∀ x ∈ ([("is_count" : Str), ("is_name" : Str), ("need_name" : Str), ("need_point" : Str), ("need_size" : Str), ("reach" : Str), ("apart" : Str), ("tree_of" : Str), ("trees" : Str), ("widest" : Str), ("box_of" : Str), ("_law_cell" : Str), ("_law_drawn" : Str), ("_law_point" : Str), ("_law_far" : Str), ("_law_near" : Str), ("_law_name" : Str), ("_law_heaps" : Str), ("_law_map" : Str), ("_law_tree" : Str), ("_law_few" : Str), ("_law_ends" : Str), ("law" : Str), ("MarkError" : Str), ("BadName" : Str), ("BadPoint" : Str), ("BadSize" : Str), ("BadHeap" : Str), ("Map" : Str)] : List Str), mg x = some (.ref (He.ga K x)) := fun x hx => He.glo_ok X G (fact (.glo x) (by
    simp only [List.mem_cons, List.not_mem_nil, or_false] at hx
    unfold fa
    simp only [List.mem_append, List.mem_cons]
    rcases hx with rfl | rfl | rfl | rfl | rfl | rfl | rfl | rfl | rfl | rfl | rfl | rfl | rfl | rfl | rfl | rfl | rfl | rfl | rfl | rfl | rfl | rfl | rfl | rfl | rfl | rfl | rfl | rfl | rfl <;> simp))
  have exc : ∀ x ∈ names5, (He.Fa.exc x).ok K = true := fun x hx => fact _ (by unfold fa; simp only [List.mem_append]; exact .inl (.inr (List.mem_map.mpr ⟨x, hx, rfl⟩)))
  have exm : ∀ x ∈ names5, PySem.W.exmOne K (.ref (He.ga K x)) (.ref (He.ga K "MarkError")) = some true := fun x hx => He.exm_ok (fact (.exm x "MarkError" true) (by unfold fa; simp only [List.mem_append]; exact .inr (List.mem_map.mpr ⟨x, hx, rfl⟩)))
  have gcl : ∀ x ∈ names5, mg x = some (.ref (He.ga K x)) := fun x hx => glo x (by
    simp only [names5, List.mem_cons, List.not_mem_nil, or_false] at hx
    rcases hx with rfl | rfl | rfl | rfl <;> simp)
  have mkEx : ∀ x ∈ names5, Ex K mg x (He.ga K x) := fun x hx => by
    obtain ⟨e1, e2, e3, e4⟩ := He.exc_ok (exc x hx)
    exact ⟨e1, gcl x hx, e2, e3, e4⟩
  have exs : Exs K mg := ⟨mkEx _ (by simp [names5]), mkEx _ (by simp [names5]), mkEx _ (by simp [names5]), mkEx _ (by simp [names5])⟩
  obtain ⟨m1, m2⟩ := He.ba (show (He.tupB K "REACHES" rcs && wordsB K) = true from c.more)
  have cn : Cns K mg := ⟨He.str_ok X G (fact _ (by unfold fa; simp)), He.int_ok X G (fact (.int "MOST_WORD" 6) (by unfold fa; simp)), He.int_ok X G (fact (.int "MOST_SIDE" 4095) (by unfold fa; simp)), He.int_ok X G (fact (.int "MOST_SIZE" 13) (by unfold fa; simp)), He.int_ok X G (fact (.int "MOST_MARKS" 60) (by unfold fa; simp)), He.glo_ok X G (fact (.glo "REACHES") (by unfold fa; simp)), fun H => He.tupB_ok m1 H⟩
  have df : ∀ x i, dd x i ∈ fn → x ∈ ([("is_count" : Str), ("is_name" : Str), ("need_name" : Str), ("need_point" : Str), ("need_size" : Str), ("reach" : Str), ("apart" : Str), ("tree_of" : Str), ("trees" : Str), ("widest" : Str), ("box_of" : Str), ("_law_cell" : Str), ("_law_drawn" : Str), ("_law_point" : Str), ("_law_far" : Str), ("_law_near" : Str), ("_law_name" : Str), ("_law_heaps" : Str), ("_law_map" : Str), ("_law_tree" : Str), ("_law_few" : Str), ("_law_ends" : Str), ("law" : Str), ("MarkError" : Str), ("BadName" : Str), ("BadPoint" : Str), ("BadSize" : Str), ("BadHeap" : Str), ("Map" : Str)] : List Str) → Df K mg x i := fun x i h1 h2 => by
    obtain ⟨fd, F⟩ := cd.defs h1
    exact ⟨_, fd, F, glo x h2⟩
  obtain ⟨fd, FL⟩ := cd.defs (d := dd "law" 41) (by unfold fn; simp)
  have e := hfa.symm.trans (glo "law" (by simp))
  cases e
  have b := FunD.bindsA (ps := ["_law_script"]) FL fun _ _ _ _ _ _ us hl => match us, hl with | [_], _ => rfl
  obtain ⟨oc, od, dV, kV, doc, pm, an, cdv, ct, osl, rfl, lk, hcd, _, _⟩ := FL.ex
  obtain ⟨cc, rfl⟩ := He.codeIn_ref hcd
  have ec : He.codeOf K ("law", none) = cc := He.codeOf_eq lk rfl
  refine ⟨_, T0, rfl, fun s v => b s [v] rfl, fun base B1 B2 => ?_⟩
  have dmf : ∀ C m q i j, dm C m q i j ∈ fn → (He.Fa.meth C m) ∈ fa → Dm K C m q i j := fun C m q i j h1 h2 => by
    obtain ⟨fd, F⟩ := cd.defs h1
    exact ⟨_, fd, F, He.meth_ok (fact _ h2)⟩
  have cf_Map_heads : CF K "Map" "heads" := ⟨He.cls_ok (fact (.cls "Map") (by unfold fa; simp)), He.noat_ok (fact (.noat "Map" "heads") (by unfold fa; simp))⟩
  have cf_Map_points : CF K "Map" "points" := ⟨He.cls_ok (fact (.cls "Map") (by unfold fa; simp)), He.noat_ok (fact (.noat "Map" "points") (by unfold fa; simp))⟩
  have g_is_count := ok_is_count (P := P) (w := w) (K := K) (mg := mg) (base := base) frs (df _ _ (by unfold fn; simp) (by simp))
  have g_is_name := ok_is_name (P := P) (w := w) (K := K) (mg := mg) (base := base) frs cn (df _ _ (by unfold fn; simp) (by simp))
  have g_need_name := ok_need_name (P := P) (w := w) (K := K) (mg := mg) (base := base) exs (df _ _ (by unfold fn; simp) (by simp)) g_is_name
  have g_need_size := ok_need_size (P := P) (w := w) (K := K) (mg := mg) (base := base) cn exs (df _ _ (by unfold fn; simp) (by simp)) g_is_count
  have g_need_point := ok_need_point (P := P) (w := w) (K := K) (mg := mg) (base := base) frs cn exs (df _ _ (by unfold fn; simp) (by simp)) g_is_count
  have g_reach := ok_reach (P := P) (w := w) (K := K) (mg := mg) (base := base) cn (df _ _ (by unfold fn; simp) (by simp))
  have g_apart := ok_apart (P := P) (w := w) (K := K) (mg := mg) (base := base) frs (df _ _ (by unfold fn; simp) (by simp))
  have g__law_cell := ok__law_cell (P := P) (w := w) (K := K) (mg := mg) (base := base) frs (df _ _ (by unfold fn; simp) (by simp))
  have g__law_drawn := ok__law_drawn (P := P) (w := w) (K := K) (mg := mg) (base := base) (df _ _ (by unfold fn; simp) (by simp))
  have g__law_point := ok__law_point (P := P) (w := w) (K := K) (mg := mg) (base := base) (df _ _ (by unfold fn; simp) (by simp))
  have g__law_far := ok__law_far (P := P) (w := w) (K := K) (mg := mg) (base := base) frs (df _ _ (by unfold fn; simp) (by simp))
  have g__law_near := ok__law_near (P := P) (w := w) (K := K) (mg := mg) (base := base) (df _ _ (by unfold fn; simp) (by simp)) g__law_far
  have m_Map___init__ := ok_Map___init__ (P := P) (w := w) (K := K) (mg := mg) (base := base) (dmf _ _ _ _ _ (by unfold fn; simp) (by unfold fa; simp)) frs cn cf_Map_heads cf_Map_points
  have k_Map := mk_of m_Map___init__ (glo "Map" (by simp)) (He.mkr_ok (fact (.mkr "Map") (by unfold fa; simp)))
  have m_Map_point := ok_Map_point (P := P) (w := w) (K := K) (mg := mg) (base := base) (dmf _ _ _ _ _ (by unfold fn; simp) (by unfold fa; simp)) exs cf_Map_points g_need_name
  have m_Map_join := ok_Map_join (P := P) (w := w) (K := K) (mg := mg) (base := base) (dmf _ _ _ _ _ (by unfold fn; simp) (by unfold fa; simp)) frs cf_Map_heads cf_Map_points g_apart g_reach
  have m_Map_put := ok_Map_put (P := P) (w := w) (K := K) (mg := mg) (base := base) (dmf _ _ _ _ _ (by unfold fn; simp) (by unfold fa; simp)) frs cn exs cf_Map_points g_need_name g_need_point m_Map_join
  have m_Map_names_at := ok_Map_names_at (P := P) (w := w) (K := K) (mg := mg) (base := base) (dmf _ _ _ _ _ (by unfold fn; simp) (by unfold fa; simp)) frs exs cf_Map_heads g_need_name g_need_size
  have m_Map_heaps := ok_Map_heaps (P := P) (w := w) (K := K) (mg := mg) (base := base) (dmf _ _ _ _ _ (by unfold fn; simp) (by unfold fa; simp)) frs cf_Map_heads g_need_size
  have m_Map_names := ok_Map_names (P := P) (w := w) (K := K) (mg := mg) (base := base) (dmf _ _ _ _ _ (by unfold fn; simp) (by unfold fa; simp)) cf_Map_points m_Map_names_at
  have m_Map_opened := ok_Map_opened (P := P) (w := w) (K := K) (mg := mg) (base := base) (dmf _ _ _ _ _ (by unfold fn; simp) (by unfold fa; simp)) frs cf_Map_heads cf_Map_points m_Map_names_at
  have g_tree_of := ok_tree_of (P := P) (w := w) (K := K) (mg := mg) (base := base) (df _ _ (by unfold fn; simp) (by simp)) frs cf_Map_points m_Map_names m_Map_opened 16
  have g_trees := ok_trees (P := P) (w := w) (K := K) (mg := mg) (base := base) (df _ _ (by unfold fn; simp) (by simp)) cn cf_Map_points g_tree_of m_Map_heaps
  have g_widest := ok_widest (P := P) (w := w) (K := K) (mg := mg) (base := base) (df _ _ (by unfold fn; simp) (by simp)) frs cf_Map_points g_apart m_Map_names m_Map_point
  have g__law_name := ok__law_name (P := P) (w := w) (K := K) (mg := mg) (base := base) (df _ _ (by unfold fn; simp) (by simp))
  have g__law_few := ok__law_few (P := P) (w := w) (K := K) (mg := mg) (base := base) (df _ _ (by unfold fn; simp) (by simp)) frs g__law_drawn g__law_name g__law_point
  have g__law_heaps := ok__law_heaps (P := P) (w := w) (K := K) (mg := mg) (base := base) (df _ _ (by unfold fn; simp) (by simp)) frs g__law_near
  have g__law_map := ok__law_map (P := P) (w := w) (K := K) (mg := mg) (base := base) (df _ _ (by unfold fn; simp) (by simp)) frs cf_Map_points g__law_drawn m_Map_put k_Map
  have g__law_tree := ok__law_tree (P := P) (w := w) (K := K) (mg := mg) (base := base) (df _ _ (by unfold fn; simp) (by simp)) frs g__law_heaps 16
  have g__law_ends := ok__law_ends (P := P) (w := w) (K := K) (mg := mg) (base := base) (df _ _ (by unfold fn; simp) (by simp)) frs 16
  exact ok_law frs lk hcd g__law_cell g__law_drawn g__law_ends g__law_far g__law_few g__law_heaps g__law_map g__law_tree g_trees g_widest
end NMH
open PySem PySem.W PySem.Calls PyProof.Rows
theorem PySem.Challenge.cw_nearmarks_k51_whole_trees_holds : PySem.Challenge.rw_nearmarks_k51_whole_trees.Holds := by
  w_on; o_law
  refine HandSHeadRun.head_any (r := OpenLaw.row PySem.Challenge.rw_nearmarks_k51_whole_trees) (q := view (OpenLaw.row PySem.Challenge.rw_nearmarks_k51_whole_trees).prog [41]) (H := NMH.hk) (ob := NMH.ob) (M := 4000) (loose := NMH.loose) (d := HandSHeadRun.topDef (OpenLaw.row PySem.Challenge.rw_nearmarks_k51_whole_trees).prog 41) (kwd := []) NMH.ob_eq
    (by kernel_rfl) (fun s => by kernel_rfl) NMH.run (by kernel_rfl) (by kernel_rfl) (by kernel_rfl) (by rfl) (by first | assumption | decide +kernel) (by decide +kernel) ⟨rfl, rfl, rfl, rfl, rfl, by decide +kernel⟩ ?hw ?hc
  case hw => w_witness2
  case hc =>
    refine LamX.walk_ofTsE (l := PySem.Challenge.rw_nearmarks_k51_whole_trees) (n := 63) (k := 27) (x := "_law_script") (CX := fun w => L2N.CX (PySem.Challenge.rw_nearmarks_k51_whole_trees).prog w) rfl (by decide) (by kernel_rfl) ⟨rfl, by decide, by decide⟩ ?F (fun _ _ _ _ _ z => by
      obtain ⟨_, _, _, _, _, _, _, _, _, _, _, _, z⟩ := z
      exact z)
    intro w mg fa h Y G hmg0
    obtain ⟨K, KX, c⟩ := Y
    have hmg : mg ("law" : PySem.Str) = some (.ref fa) := by
      have e : (HandSHeadRun.topDef (OpenLaw.row PySem.Challenge.rw_nearmarks_k51_whole_trees).prog 41).name = ("law" : PySem.Str) := by kernel_rfl
      rw [← e]
      exact hmg0
    obtain ⟨fd, T, eT, hb, hF⟩ := NMH.facts (P := (PySem.Challenge.rw_nearmarks_k51_whole_trees).prog) (w := w) KX G hmg c
    refine ⟨K, KX, fd, [], _, fun p hp => (nomatch hp), fun p hp => (nomatch hp), fun p hp => (nomatch hp), hb, fun H a ns hl _ hT hS => ?_, fun base B1 B2 TB => hF base B1 B2⟩
    · refine ⟨fun _ => none, [.lo (NM.oS ns)], _, rfl, (fun _ _ _ z => nomatch z), (fun p hp => ?_), .cons ⟨a, rfl, hS⟩ .nil, NM.SF.rt (er := NM.er_law) (en := NM.en_law) (F := NM.U_law) ns true (NM.law_ok ns hl), fun v F' H' g r => NM.Rp.inv_bl r⟩
      rw [eT] at hp
      cases hp
