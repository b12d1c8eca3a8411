import PyProof.Rows.All
import Wide.All
import OpenK.AllK
import Wide.FinOn
import HandS.ForMost
import HandS.ForExc
import HandS.Lambda
import HandS.Walk
import HandS.Wide
import HandS.IsInst
import HandS.More
import HandS.TupAny
import HandS.Style
import KE.SortData
import KE.DatumOrd
import PyProof.Claim2Refuses
import HandS.Defaults
import HandS.ExcCtx
import HandS.HotCalls
import HandS.ExcIs
import PyProof.SumWalkG
import HandS.HeadHook4
import HandS.Head0
import HandS.Head1
import HandS.Head2
import HandS.HeadEnd
import HandS.HeadWalk
import PySem.Challenge.RW_nearmarks_k10_points
set_option Elab.async false
set_option linter.all false
set_option maxRecDepth 100000
set_option maxHeartbeats 1000000
/-! The data layer: what a value stands for (D, Rp), frozen knowledge F and the heap H, the evaluation of readings upon data (Ev). -/
namespace NM
open PySem PySem.Spec PyProof.Rows L2
/-- the tables of code objects that are watched -/
class Tbs where
  T : List (Addr × Str)
variable [Tbs]

/-- plain data -/
inductive D where
  | non | bl (b : Bool) | int (i : Int) | str (s : Str)
  | tup (ds : List D) | lst (ds : List D) | dct (kvs : List (Str × D))

/-- no table of code objects -/
def NT (u : HO) : Prop := ∀ ps, u ≠ .tbl ps
/-- .. nor an object of another kind that is watched -/
def NX (u : HO) : Prop := NT u ∧ ∀ φ, u ≠ .ext φ
theorem nx_lst {xs : List V} : NX (.lst xs) := ⟨fun _ z => (by cases z), fun _ z => (by cases z)⟩
theorem nx_dK {xs : List (Key × V)} : NX (.dK xs) := ⟨fun _ z => (by cases z), fun _ z => (by cases z)⟩
theorem nt_lst {xs : List V} : NT (.lst xs) := fun _ z => by cases z
theorem nt_tup {xs : List V} : NT (.tup xs) := fun _ z => by cases z
theorem nt_dK {xs : List (Key × V)} : NT (.dK xs) := fun _ z => by cases z
theorem nt_frz {o : Obj} {u : HO} : NT (.frz o u) := fun _ z => by cases z
/-- all that F knows stands in H (a dict may be locked there); tables of code objects don't count -/
def Kn (F H : Hp) : Prop := ∀ a u, NT u → F a = some u → H a = some u ∨ ∃ kvs o, u = HO.dK kvs ∧ H a = some (.frz o u)
theorem Kn.refl (H : Hp) : Kn H H := fun _ _ _ h => .inl h
theorem Kn.of {F H : Hp} (h : ∀ a u, NT u → F a = some u → H a = some u) : Kn F H := fun a u n e => .inl (h a u n e)
theorem Kn.trans {F G H : Hp} (h : Kn F G) (k : Kn G H) : Kn F H := fun a u n e => by
  rcases h a u n e with q | ⟨kvs, o, rfl, q⟩
  · exact k a u n q
  · rcases k a _ nt_frz q with r | ⟨_, _, z, _⟩
    · exact .inr ⟨kvs, o, rfl, r⟩
    · cases z
theorem Kn.rd {F H : Hp} {a : Addr} {kvs : List (Key × V)} (h : Kn F H) (r : Rd F a (.dK kvs)) : Rd H a (.dK kvs) := by
  rcases r with r | ⟨o, r⟩
  · rcases h a _ nt_dK r with q | ⟨_, o, _, q⟩
    · exact .inl q
    · exact .inr ⟨o, q⟩
  · rcases h a _ nt_frz r with q | ⟨_, _, z, _⟩
    · exact .inr ⟨o, q⟩
    · cases z
theorem Kn.lst {F H : Hp} {a : Addr} {xs : List V} (h : Kn F H) (r : F a = some (.lst xs)) : H a = some (.lst xs) := by
  rcases h a _ nt_lst r with q | ⟨_, _, z, _⟩
  · exact q
  · cases z
theorem Kn.sqL {K : PySem.W.Frag} {F H : Hp} {a : Addr} {xs : List V} (h : Kn F H) (r : SqL K F a xs) : SqL K H a xs := by
  rcases r with (r | ⟨o, r⟩) | r
  · rcases h a _ nt_lst r with q | ⟨_, _, z, _⟩
    · exact .inl (.inl q)
    · cases z
  · rcases h a _ nt_frz r with q | ⟨_, _, z, _⟩
    · exact .inl (.inr ⟨o, q⟩)
    · cases z
  · exact .inr r
theorem Kn.sqT {K : PySem.W.Frag} {F H : Hp} {a : Addr} {xs : List V} (h : Kn F H) (r : SqT K F a xs) : SqT K H a xs := by
  rcases r with (r | ⟨o, r⟩) | r
  · rcases h a _ nt_tup r with q | ⟨_, _, z, _⟩
    · exact .inl (.inl q)
    · cases z
  · rcases h a _ nt_frz r with q | ⟨_, _, z, _⟩
    · exact .inl (.inr ⟨o, q⟩)
    · cases z
  · exact .inr r

mutual
/-- what a value stands for -/
inductive Rp (K : PySem.W.Frag) (F : Hp) : V → D → Prop
  | non : Rp K F .non .non
  | bl (b : Bool) : Rp K F (.bl b) (.bl b)
  | int (i : Int) : Rp K F (.int i) (.int i)
  | str (s : Str) : Rp K F (.str s) (.str s)
  | tup {a : Addr} {xs : List V} {ds : List D} : SqT K F a xs → RpL K F xs ds → Rp K F (.ref a) (.tup ds)
  | lst {a : Addr} {xs : List V} {ds : List D} : F a = some (.lst xs) → RpL K F xs ds → Rp K F (.ref a) (.lst ds)
  | dct {a : Addr} {ks : List (Key × V)} {ds : List (Str × D)} : Rd F a (.dK ks) → RpK K F ks ds → Rp K F (.ref a) (.dct ds)
inductive RpL (K : PySem.W.Frag) (F : Hp) : List V → List D → Prop
  | nil : RpL K F [] []
  | cons {v : V} {vs : List V} {d : D} {ds : List D} : Rp K F v d → RpL K F vs ds → RpL K F (v :: vs) (d :: ds)
inductive RpK (K : PySem.W.Frag) (F : Hp) : List (Key × V) → List (Str × D) → Prop
  | nil : RpK K F [] []
  | cons {s : Str} {v : V} {ks : List (Key × V)} {d : D} {ds : List (Str × D)} : Rp K F v d → RpK K F ks ds → RpK K F ((Sum.inr s, v) :: ks) ((s, d) :: ds)
end
section
variable {K : PySem.W.Frag} {F H : Hp}
mutual
theorem Rp.mono (h : Kn F H) : ∀ {v : V} {d : D}, Rp K F v d → Rp K H v d
  | _, _, .non => .non
  | _, _, .bl b => .bl b
  | _, _, .int i => .int i
  | _, _, .str s => .str s
  | _, _, .tup q r => .tup (h.sqT q) (RpL.mono h r)
  | _, _, .lst q r => .lst (h.lst q) (RpL.mono h r)
  | _, _, .dct q r => .dct (h.rd q) (RpK.mono h r)
theorem RpL.mono (h : Kn F H) : ∀ {vs : List V} {ds : List D}, RpL K F vs ds → RpL K H vs ds
  | _, _, .nil => .nil
  | _, _, .cons a b => .cons (Rp.mono h a) (RpL.mono h b)
theorem RpK.mono (h : Kn F H) : ∀ {ks : List (Key × V)} {ds : List (Str × D)}, RpK K F ks ds → RpK K H ks ds
  | _, _, .nil => .nil
  | _, _, .cons a b => .cons (Rp.mono h a) (RpK.mono h b)
end
theorem RpL.length : ∀ {vs : List V} {ds : List D}, RpL K F vs ds → vs.length = ds.length
  | _, _, .nil => rfl
  | _, _, .cons _ b => congrArg (· + 1) (RpL.length b)
theorem RpK.length : ∀ {ks : List (Key × V)} {ds : List (Str × D)}, RpK K F ks ds → ks.length = ds.length
  | _, _, .nil => rfl
  | _, _, .cons _ b => congrArg (· + 1) (RpK.length b)
theorem RpL.get : ∀ {vs : List V} {ds : List D} {i : Nat} {d : D}, RpL K F vs ds → ds[i]? = some d → ∃ v, vs[i]? = some v ∧ Rp K F v d
  | _, _, i, _, .nil, e => by simp at e
  | _, _, 0, _, .cons r _, e => by simp at e; subst e; exact ⟨_, rfl, r⟩
  | _, _, i + 1, d, .cons _ t, e => by
    obtain ⟨u, h1, h2⟩ := RpL.get (i := i) (d := d) t (by simpa using e)
    exact ⟨u, by simpa using h1, h2⟩
theorem RpL.getV : ∀ {vs : List V} {ds : List D} {i : Nat} {v : V}, RpL K F vs ds → vs[i]? = some v → ∃ d, ds[i]? = some d ∧ Rp K F v d
  | _, _, i, _, .nil, e => by simp at e
  | _, _, 0, _, .cons r _, e => by simp at e; subst e; exact ⟨_, rfl, r⟩
  | _, _, i + 1, v, .cons _ t, e => by
    obtain ⟨u, h1, h2⟩ := RpL.getV (i := i) (v := v) t (by simpa using e)
    exact ⟨u, by simpa using h1, h2⟩
theorem RpL.app : ∀ {vs us : List V} {ds es : List D}, RpL K F vs ds → RpL K F us es → RpL K F (vs ++ us) (ds ++ es)
  | _, _, _, _, .nil, s => s
  | _, _, _, _, .cons r t, s => .cons r (RpL.app t s)
theorem RpL.take : ∀ {vs : List V} {ds : List D} (n : Nat), RpL K F vs ds → RpL K F (vs.take n) (ds.take n)
  | _, _, 0, _ => .nil
  | _, _, _ + 1, .nil => .nil
  | _, _, n + 1, .cons r t => .cons r (RpL.take n t)
theorem RpL.drop : ∀ {vs : List V} {ds : List D} (n : Nat), RpL K F vs ds → RpL K F (vs.drop n) (ds.drop n)
  | _, _, 0, r => r
  | _, _, _ + 1, .nil => .nil
  | _, _, n + 1, .cons _ t => RpL.drop n t
theorem RpL.eraseIdx : ∀ {vs : List V} {ds : List D} (n : Nat), RpL K F vs ds → RpL K F (vs.eraseIdx n) (ds.eraseIdx n)
  | _, _, _, .nil => .nil
  | _, _, 0, .cons _ t => t
  | _, _, n + 1, .cons r t => .cons r (RpL.eraseIdx n t)
theorem RpL.rev : ∀ {vs : List V} {ds : List D}, RpL K F vs ds → RpL K F vs.reverse ds.reverse
  | _, _, .nil => .nil
  | _, _, .cons r t => by
    rw [List.reverse_cons, List.reverse_cons]
    exact (RpL.rev t).app (.cons r .nil)
theorem RpL.ints {vs : List V} : ∀ {ns : List Int}, RpL K F vs (ns.map D.int) → vs = ns.map V.int
  | [], h => by cases h; rfl
  | n :: ns, h => by
    cases h with
    | cons a b =>
      cases a
      rw [RpL.ints b]
      rfl
theorem RpL.strs {vs : List V} : ∀ {ns : List Str}, RpL K F vs (ns.map D.str) → vs = ns.map V.str
  | [], h => by cases h; rfl
  | n :: ns, h => by
    cases h with
    | cons a b =>
      cases a
      rw [RpL.strs b]
      rfl
theorem RpL.bls {vs : List V} : ∀ {ns : List Bool}, RpL K F vs (ns.map D.bl) → vs = ns.map V.bl
  | [], h => by cases h; rfl
  | n :: ns, h => by
    cases h with
    | cons a b =>
      cases a
      rw [RpL.bls b]
      rfl
theorem RpL.of_ints : ∀ (ns : List Int), RpL K F (ns.map V.int) (ns.map D.int)
  | [] => .nil
  | n :: ns => .cons (.int n) (RpL.of_ints ns)
theorem RpL.of_strs : ∀ (ns : List Str), RpL K F (ns.map V.str) (ns.map D.str)
  | [] => .nil
  | n :: ns => .cons (.str n) (RpL.of_strs ns)
theorem RpL.of_bls : ∀ (ns : List Bool), RpL K F (ns.map V.bl) (ns.map D.bl)
  | [] => .nil
  | n :: ns => .cons (.bl n) (RpL.of_bls ns)
theorem RpK.keys : ∀ {ks : List (Key × V)} {ds : List (Str × D)}, RpK K F ks ds → ks.map (·.1) = (ds.map (·.1)).map Sum.inr
  | _, _, .nil => rfl
  | _, _, .cons _ b => by
    show _ :: _ = _ :: _
    rw [RpK.keys b]
end

section
variable {K : PySem.W.Frag} {F : Hp} {v : V}
theorem Rp.inv_lst {ds : List D} (h : Rp K F v (.lst ds)) : ∃ a xs, v = .ref a ∧ F a = some (.lst xs) ∧ RpL K F xs ds := by
  cases h with
  | lst e r => exact ⟨_, _, rfl, e, r⟩
theorem Rp.inv_tup {ds : List D} (h : Rp K F v (.tup ds)) : ∃ a xs, v = .ref a ∧ SqT K F a xs ∧ RpL K F xs ds := by
  cases h with
  | tup e r => exact ⟨_, _, rfl, e, r⟩
theorem Rp.inv_dct {ds : List (Str × D)} (h : Rp K F v (.dct ds)) : ∃ a ks, v = .ref a ∧ Rd F a (.dK ks) ∧ RpK K F ks ds := by
  cases h with
  | dct e r => exact ⟨_, _, rfl, e, r⟩
theorem Rp.inv_int {i : Int} (h : Rp K F v (.int i)) : v = .int i := by cases h; rfl
theorem Rp.inv_str {i : Str} (h : Rp K F v (.str i)) : v = .str i := by cases h; rfl
theorem Rp.inv_bl {i : Bool} (h : Rp K F v (.bl i)) : v = .bl i := by cases h; rfl
theorem Rp.inv_non (h : Rp K F v .non) : v = .non := by cases h; rfl
end

/-- nothing but a table may stand at a -/
def Fr (H : Hp) (a : Addr) : Prop := ∀ u, NT u → H a ≠ some u
theorem Fr.of {H : Hp} {a : Addr} (h : H a = none) : Fr H a := fun u _ e => by
  rw [h] at e
  cases e
theorem Fr.ne {H : Hp} {a b : Addr} {u : HO} (h : Fr H b) (n : NT u) (e : H a = some u) : a ≠ b := fun z => h u n (by rw [← z]; exact e)
/-- one heap is told nowhere where the other is -/
def Off (O F : Hp) : Prop := ∀ a u, O a = some u → Fr F a
/-- F grows to F', H to H': what is new in F' was new in H -/
structure Gr (F F' H H' : Hp) : Prop where
  ff : ∀ a u, NT u → F a = some u → F' a = some u
  fr : ∀ a u, NT u → H a = some u → Fr F a → Fr F' a
  hh : ∀ a u, NT u → H a = some u → H' a = some u
  tb : LamX.Tabs Tbs.T H → LamX.Tabs Tbs.T H'
  kn : Kn F' H'
/-- what is nowhere but where neither tables nor code objects stand changes nothing of the tables -/
theorem tabs_of {T : List (Addr × Str)} {H H' : Hp} (h : ∀ a u, ¬ NX u → H a = some u → H' a = some u) (t : LamX.Tabs T H) : LamX.Tabs T H' := fun p hp => by
  obtain ⟨ps, h1, h2, h3⟩ := t p hp
  refine ⟨ps, h _ _ (fun z => z.1 ps rfl) h1, h2, fun pos cv hc => ?_⟩
  obtain ⟨c, e1, e2⟩ := h3 pos cv hc
  exact ⟨c, e1, h _ _ (fun z => z.2 _ rfl) e2⟩
theorem Gr.refl {F H : Hp} (h : Kn F H) : Gr F F H H := ⟨fun _ _ _ e => e, fun _ _ _ _ e => e, fun _ _ _ e => e, id, h⟩
/-- what is free in H' was so in H -/
def Mo (H H' : Hp) : Prop := ∀ a, Fr H' a → Fr H a
theorem Mo.trans {H H1 H2 : Hp} (a : Mo H H1) (b : Mo H1 H2) : Mo H H2 := fun x e => a x (b x e)
theorem Gr.mo {F F' H H' : Hp} (g : Gr F F' H H') : Mo H H' := fun a h u n e => h u n (g.hh a u n e)
theorem Gr.trans {F F1 F2 H H1 H2 : Hp} (a : Gr F F1 H H1) (b : Gr F1 F2 H1 H2) : Gr F F2 H H2 :=
  ⟨fun x u n e => b.ff x u n (a.ff x u n e), fun x u n e f => b.fr x u n (a.hh x u n e) (a.fr x u n e f), fun x u n e => b.hh x u n (a.hh x u n e), fun t => b.tb (a.tb t), b.kn⟩
theorem Gr.fk {F F' H H' : Hp} (g : Gr F F' H H') : Kn F F' := .of g.ff
theorem Gr.hk {F F' H H' : Hp} (g : Gr F F' H H') : Kn H H' := .of g.hh
theorem Kn.free {F H : Hp} (k : Kn F H) {a : Addr} (h : H a = none) : Fr F a := fun u n q => by
  rcases k a u n q with z | ⟨_, _, _, z⟩
  · rw [h] at z; cases z
  · rw [h] at z; cases z
/-- a new object that only H knows -/
theorem Gr.new {F H : Hp} {p : Addr} {o : HO} (k : Kn F H) (h : H p = none) : Gr F F H (upd H p o) :=
  ⟨fun _ _ _ e => e, fun _ _ _ _ e => e, fun a u _ e => by rw [upd_ne (ne_of_none e h)]; exact e, tabs_of fun a u _ e => (by rw [upd_ne (ne_of_none e h)]; exact e), fun a u n e => by
    rw [upd_ne ((k.free h).ne n e)]
    exact k a u n e⟩
/-- a new object, frozen -/
theorem Gr.newF {F H : Hp} {p : Addr} {o : HO} (k : Kn F H) (h : H p = none) : Gr F (upd F p o) H (upd H p o) :=
  ⟨fun a u n e => by rw [upd_ne ((k.free h).ne n e)]; exact e, fun a u n e f => fun w m => by rw [upd_ne (ne_of_none e h)]; exact f w m, fun a u _ e => by rw [upd_ne (ne_of_none e h)]; exact e, tabs_of fun a u _ e => (by rw [upd_ne (ne_of_none e h)]; exact e), fun a u n e => by
    by_cases q : a = p
    · rw [q, upd_same] at e
      rw [q, upd_same]
      exact .inl e
    · rw [upd_ne q] at e
      rw [upd_ne q]
      exact k a u n e⟩

/-- a thing with a heap part of its own: O, what is known of it -/
structure Ow where
  φ : PySem.W.Frag → Hp → Hp → V → Prop
  mono : ∀ {K : PySem.W.Frag} {F F' O : Hp} {v : V}, Kn F F' → φ K F O v → φ K F' O v
/-- a thing that is looked at, in a heap O -/
structure Ob where
  φ : PySem.W.Frag → Hp → Hp → V → Prop
  mono : ∀ {K : PySem.W.Frag} {F F' O O' : Hp} {v : V}, Kn F F' → Kn O O' → φ K F O v → φ K F' O' v
/-- a list, a dict of one's own, to be written -/
def cM (K : PySem.W.Frag) (F O : Hp) (v : V) : D → Prop
  | .lst ds => ∃ p xs, v = .ref p ∧ O p = some (.lst xs) ∧ RpL K F xs ds
  | .dct ds => ∃ p ks, v = .ref p ∧ O p = some (.dK ks) ∧ RpK K F ks ds
  | _ => False
def oM (d : D) : Ow := ⟨fun K F O v => cM K F O v d, fun {K F F' O v} k h => by
  cases d with
  | lst ds => obtain ⟨p, xs, a, b, c⟩ := h; exact ⟨p, xs, a, b, c.mono k⟩
  | dct ds => obtain ⟨p, xs, a, b, c⟩ := h; exact ⟨p, xs, a, b, c.mono k⟩
  | _ => exact h.elim⟩
/-- what is seen of data that may be written later: its top in H, all below frozen -/
def ObsD (K : PySem.W.Frag) (F H : Hp) (v : V) : D → Prop
  | .lst ds => ∃ p xs, v = .ref p ∧ H p = some (.lst xs) ∧ RpL K F xs ds
  | .dct ds => ∃ p ks, v = .ref p ∧ Rd H p (.dK ks) ∧ RpK K F ks ds
  | d => Rp K F v d
theorem ObsD.of {K : PySem.W.Frag} {F H : Hp} {v : V} {d : D} (k : Kn F H) (h : Rp K F v d) : ObsD K F H v d := by
  cases h with
  | lst q r => exact ⟨_, _, rfl, k.lst q, r⟩
  | dct q r => exact ⟨_, _, rfl, k.rd q, r⟩
  | tup q r => exact .tup q r
  | non => exact .non
  | bl b => exact .bl b
  | int b => exact .int b
  | str b => exact .str b
theorem ObsD.mono {K : PySem.W.Frag} {F F' H H' : Hp} {v : V} {d : D} (k : Kn F F') (k' : Kn H H') (h : ObsD K F H v d) : ObsD K F' H' v d := by
  cases d with
  | lst ds => obtain ⟨p, xs, a, b, c⟩ := h; exact ⟨p, xs, a, k'.lst b, c.mono k⟩
  | dct ds => obtain ⟨p, xs, a, b, c⟩ := h; exact ⟨p, xs, a, k'.rd b, c.mono k⟩
  | non => exact Rp.mono k h
  | bl b => exact Rp.mono k h
  | int b => exact Rp.mono k h
  | str b => exact Rp.mono k h
  | tup b => exact Rp.mono k h
theorem ObsD.ofM {K : PySem.W.Frag} {F O H : Hp} {v : V} {d : D} (k : Kn O H) (h : cM K F O v d) : ObsD K F H v d := by
  cases d with
  | lst ds => obtain ⟨p, xs, a, b, c⟩ := h; exact ⟨p, xs, a, k.lst b, c⟩
  | dct ds => obtain ⟨p, xs, a, b, c⟩ := h; exact ⟨p, xs, a, k.rd (.inl b), c⟩
  | _ => exact h.elim
def oB (d : D) : Ob := ⟨fun K F O v => ObsD K F O v d, fun k k' h => h.mono k k'⟩
/-- a list of ints that may be locked or written (the script) -/
def oS (ns : List Int) : Ob := ⟨fun K F O v => ∃ p, v = .ref p ∧ SqL K O p (ns.map V.int), fun k k' ⟨p, a, b⟩ => ⟨p, a, k'.sqL b⟩⟩

/-- what an expression gives: frozen data, a new thing of its own, a thing looked at, a borrowed one (of the heap B at the entry) -/
inductive Vl where
  | im (d : D) | nw (o : Ow) | lo (o : Ob) | br (o : Ob)
abbrev Vl.ob (d : D) : Vl := .lo (oB d)
def VlOk (K : PySem.W.Frag) (B H0 F H : Hp) (v : V) : Vl → Prop
  | .im d => Rp K F v d
  | .nw o => ∃ O : Hp, (∀ a u, O a = some u → H a = some u ∧ NX u) ∧ Off O F ∧ Off O H0 ∧ o.φ K F O v
  | .lo o => o.φ K F H v
  | .br o => o.φ K F B v
section
variable {K : PySem.W.Frag} {B : Hp}
theorem VlOk.step {H0 F F' H H' : Hp} {v : V} {r : Vl} (g : Gr F F' H H') (h : VlOk K B H0 F H v r) : VlOk K B H0 F' H' v r := by
  cases r with
  | im d => exact Rp.mono g.fk h
  | nw o =>
    obtain ⟨O, a, b, c, e⟩ := h
    exact ⟨O, fun x u q => ⟨g.hh x u (a x u q).2.1 (a x u q).1, (a x u q).2⟩, fun x u q => g.fr x u (a x u q).2.1 (a x u q).1 (b x u q), c, o.mono g.fk e⟩
  | lo o => exact o.mono g.fk g.hk h
  | br o => exact o.mono g.fk (Kn.refl _) h
theorem VlOk.back {H0 H1 F H : Hp} {v : V} {r : Vl} (g : Mo H0 H1) (h : VlOk K B H1 F H v r) : VlOk K B H0 F H v r := by
  cases r with
  | nw o =>
    obtain ⟨O, a, b, c, e⟩ := h
    exact ⟨O, a, b, fun x u q => g x (c x u q), e⟩
  | im d => exact h
  | lo o => exact h
  | br o => exact h
inductive VlL (K : PySem.W.Frag) (B H0 F H : Hp) : List V → List Vl → Prop
  | nil : VlL K B H0 F H [] []
  | cons {v : V} {vs : List V} {r : Vl} {rs : List Vl} : VlOk K B H0 F H v r → VlL K B H0 F H vs rs → VlL K B H0 F H (v :: vs) (r :: rs)
theorem VlL.step {H0 F F' H H' : Hp} (g : Gr F F' H H') : ∀ {vs : List V} {rs : List Vl}, VlL K B H0 F H vs rs → VlL K B H0 F' H' vs rs
  | _, _, .nil => .nil
  | _, _, .cons a b => .cons (a.step g) (b.step g)
theorem VlL.back {H0 H1 F H : Hp} (g : Mo H0 H1) : ∀ {vs : List V} {rs : List Vl}, VlL K B H1 F H vs rs → VlL K B H0 F H vs rs
  | _, _, .nil => .nil
  | _, _, .cons a b => .cons (a.back g) (b.back g)
theorem VlL.ims {H0 F H : Hp} : ∀ {vs : List V} {ds : List D}, VlL K B H0 F H vs (ds.map .im) → RpL K F vs ds
  | [], [], _ => .nil
  | _ :: _, _ :: _, .cons a b => .cons a (VlL.ims b)
theorem VlL.length {H0 F H : Hp} : ∀ {vs : List V} {rs : List Vl}, VlL K B H0 F H vs rs → vs.length = rs.length
  | _, _, .nil => rfl
  | _, _, .cons _ b => congrArg (· + 1) (VlL.length b)
end

/-- what a slot holds: unknown, frozen data, a thing of one's own, a borrowed one -/
inductive Sl where
  | un | im (d : D) | ow (o : Ow) | br (o : Ob)
abbrev Env := List Sl
def SlE (K : PySem.W.Frag) (B F H : Hp) (x : Option (Option V)) : Sl → Prop
  | .un => True
  | .im d => ∃ v, x = some (some v) ∧ Rp K F v d
  | .ow o => ∃ v O, x = some (some v) ∧ Kn O H ∧ o.φ K F O v
  | .br o => ∃ v, x = some (some v) ∧ o.φ K F B v
/-- what stood at the entry stands, the tables are as they are to be -/
structure Bn (B H : Hp) : Prop where
  kn : Kn B H
  tb : LamX.Tabs Tbs.T H
theorem Bn.step {B F F' H H' : Hp} (g : Gr F F' H H') (b : Bn B H) : Bn B H' := ⟨b.kn.trans g.hk, g.tb b.tb⟩
structure RelE (K : PySem.W.Frag) (B F H : Hp) (σ : L2.St) (env : Env) : Prop where
  kn : Kn F H
  bn : Bn B H
  len : σ.length = env.length
  sl : ∀ (i : Nat) (s : Sl), env[i]? = some s → SlE K B F H (σ[i]?) s
section
variable {K : PySem.W.Frag} {B : Hp}
theorem SlE.mono {F F' H H' : Hp} {x : Option (Option V)} {s : Sl} (k : Kn F F') (k' : Kn H H') (h : SlE K B F H x s) : SlE K B F' H' x s := by
  cases s with
  | un => trivial
  | im d => obtain ⟨v, a, b⟩ := h; exact ⟨v, a, b.mono k⟩
  | ow o => obtain ⟨v, O, a, b, c⟩ := h; exact ⟨v, O, a, b.trans k', o.mono k c⟩
  | br o => obtain ⟨v, a, c⟩ := h; exact ⟨v, a, o.mono k (Kn.refl _) c⟩
theorem RelE.step {F F' H H' : Hp} {σ : L2.St} {env : Env} (g : Gr F F' H H') (h : RelE K B F H σ env) : RelE K B F' H' σ env :=
  ⟨g.kn, h.bn.step g, h.len, fun i s e => (h.sl i s e).mono g.fk g.hk⟩
end

/-- an expression's reading gives r -/
def Ev (K : PySem.W.Frag) (B : Hp) (te : TE) (env : Env) (r : Vl) : Prop :=
  ∀ F H σ, RelE K B F H σ env → ∀ Q : VK, (∀ v F' H', Gr F F' H H' → VlOk K B H F' H' v r → Q v H') → te σ H Q
def EvT (K : PySem.W.Frag) (B : Hp) (tt : TT) (env : Env) (b : Bool) : Prop :=
  ∀ F H σ, RelE K B F H σ env → ∀ Q : Bool → Hp → Prop, (∀ F' H', Gr F F' H H' → Q b H') → tt σ H Q
def EvA (K : PySem.W.Frag) (B : Hp) (ta : TA) (env : Env) (rs : List Vl) : Prop :=
  ∀ F H σ, RelE K B F H σ env → ∀ Q : List V → Hp → Prop, (∀ vs F' H', Gr F F' H H' → VlL K B H F' H' vs rs → Q vs H') → ta σ H Q
/-- an operation on two values, on one, on a list of values -/
def RV (K : PySem.W.Frag) (r : R2) (a b c : Vl) : Prop :=
  ∀ B F H x y, Kn F H → (∃ H0, VlOk K B H0 F H x a) → (∃ H0, VlOk K B H0 F H y b) → ∀ Q : VK, (∀ v F' H', Gr F F' H H' → VlOk K B H F' H' v c → Q v H') → r x y H Q
def RU (K : PySem.W.Frag) (r : V → Hp → VK → Prop) (a c : Vl) : Prop :=
  ∀ B F H x, Kn F H → (∃ H0, VlOk K B H0 F H x a) → ∀ Q : VK, (∀ v F' H', Gr F F' H H' → VlOk K B H F' H' v c → Q v H') → r x H Q
def RC (K : PySem.W.Frag) (r : List V → Hp → VK → Prop) (as : List Vl) (c : Vl) : Prop :=
  ∀ B F H xs, Kn F H → (∃ H0, VlL K B H0 F H xs as) → ∀ Q : VK, (∀ v F' H', Gr F F' H H' → VlOk K B H F' H' v c → Q v H') → r xs H Q

/-- the heap F with O besides -/
def join (F O : Hp) : Hp := fun a => match O a with
  | some u => some u
  | none => F a
theorem join_in {F O : Hp} {a : Addr} {u : HO} (h : O a = some u) : join F O a = some u := by unfold join; rw [h]
theorem join_out {F O : Hp} {a : Addr} (h : O a = none) : join F O a = F a := by unfold join; rw [h]
theorem join_kn {F O : Hp} (h : Off O F) : ∀ a u, NT u → F a = some u → join F O a = some u := fun a u n e => by
  cases q : O a with
  | none => rw [join_out q]; exact e
  | some w => exact absurd e (h a w q u n)
theorem oM_freeze {K : PySem.W.Frag} {F O : Hp} {v : V} {d : D} (off : Off O F) (e : cM K F O v d) : Rp K (join F O) v d := by
  have k : Kn F (join F O) := .of (join_kn off)
  cases d with
  | lst ds => obtain ⟨p, xs, rfl, h2, h3⟩ := e; exact .lst (join_in h2) (h3.mono k)
  | dct ds => obtain ⟨p, xs, rfl, h2, h3⟩ := e; exact .dct (.inl (join_in h2)) (h3.mono k)
  | _ => exact e.elim
/-- a part of H, off F and off H0, is frozen -/
theorem Gr.freeze {F F' O H H' : Hp} (g : Gr F F' H H') (h1 : ∀ a u, O a = some u → H' a = some u ∧ NX u) (h2 : Off O F') (h3 : Off O H) : Gr F (join F' O) H H' :=
  ⟨fun a u n e => join_kn h2 a u n (g.ff a u n e), fun a u n e f => by
    have z : O a = none := by
      cases w : O a with
      | none => rfl
      | some w' => exact absurd e (h3 a w' w u n)
    intro w m
    rw [join_out z]
    exact g.fr a u n e f w m, g.hh, g.tb, fun a u n e => by
    cases w : O a with
    | none => rw [join_out w] at e; exact g.kn a u n e
    | some w' =>
      rw [join_in w] at e
      cases e
      exact .inl (h1 a _ w).1⟩

section
variable {K : PySem.W.Frag} {B : Hp} {env : Env} {ta tb te : TE} {a b c r : Vl} {d : D}
/-! ### kinds of results -/
theorem Ev.weak (h : Ev K B te env a) (k : ∀ H0 F H v, Kn F H → Kn B H → VlOk K B H0 F H v a → ∃ F', Gr F F' H H ∧ VlOk K B H0 F' H v b) : Ev K B te env b := fun F H σ R Q q =>
  h F H σ R Q fun v F' H' g x => by
    obtain ⟨F2, g2, y⟩ := k H F' H' v g.kn (R.bn.kn.trans g.hk) x
    exact q v F2 H' (g.trans g2) y
theorem ev_ob (h : Ev K B te env (.im d)) : Ev K B te env (.ob d) := h.weak fun H0 F H v kn _ x => ⟨F, Gr.refl kn, ObsD.of kn x⟩
theorem ev_bl {o : Ob} (h : Ev K B te env (.br o)) : Ev K B te env (.lo o) := h.weak fun H0 F H v kn bn x => ⟨F, Gr.refl kn, o.mono (Kn.refl _) bn x⟩
theorem ev_nl {o : Ow} {o' : Ob} (c : ∀ K F O H v, Kn O H → o.φ K F O v → o'.φ K F H v) (h : Ev K B te env (.nw o)) : Ev K B te env (.lo o') := h.weak fun H0 F H v kn _ ⟨O, a, _, _, e⟩ => ⟨F, Gr.refl kn, c _ _ _ _ _ (.of fun x u _ q => (a x u q).1) e⟩
theorem ev_no (h : Ev K B te env (.nw (oM d))) : Ev K B te env (.ob d) := ev_nl (o' := oB d) (fun _ _ _ _ _ k e => ObsD.ofM k e) h
theorem ev_im (h : Ev K B te env (.nw (oM d))) : Ev K B te env (.im d) := fun F H σ R Q q =>
  h F H σ R Q fun v F' H' g ⟨O, h1, h2, h3, h4⟩ => q v (join F' O) H' (g.freeze h1 h2 h3) (oM_freeze h2 h4)

/-! ### names, constants -/
theorem ev_var {i : Nat} (h : env[i]? = some (.im d)) : Ev K B (tVar i) env (.im d) := fun F H σ R Q q => by
  obtain ⟨v, e, r⟩ := R.sl i _ h
  exact ⟨v, e, q v F H (Gr.refl R.kn) r⟩
theorem ev_varL {i : Nat} {o : Ow} {o' : Ob} (h : env[i]? = some (.ow o)) (c : ∀ K F O H v, Kn O H → o.φ K F O v → o'.φ K F H v) : Ev K B (tVar i) env (.lo o') := fun F H σ R Q q => by
  obtain ⟨v, O, e, kO, x⟩ := R.sl i _ h
  exact ⟨v, e, q v F H (Gr.refl R.kn) (c _ _ _ _ _ kO x)⟩
theorem ev_varO {i : Nat} (h : env[i]? = some (.ow (oM d))) : Ev K B (tVar i) env (.ob d) := ev_varL h fun _ _ _ _ _ k e => ObsD.ofM k e
theorem ev_varR {i : Nat} {o : Ob} (h : env[i]? = some (.br o)) : Ev K B (tVar i) env (.br o) := fun F H σ R Q q => by
  obtain ⟨v, e, x⟩ := R.sl i _ h
  exact ⟨v, e, q v F H (Gr.refl R.kn) x⟩
theorem ev_varB {i : Nat} {o : Ob} (h : env[i]? = some (.br o)) : Ev K B (tVar i) env (.lo o) := ev_bl (ev_varR h)
theorem ev_int {i : Int} : Ev K B (tC (.int i)) env (.im (.int i)) := fun F H σ R Q q => q _ F H (Gr.refl R.kn) (.int i)
theorem ev_str {s : Str} : Ev K B (tC (.str s)) env (.im (.str s)) := fun F H σ R Q q => q _ F H (Gr.refl R.kn) (.str s)
theorem ev_bool {s : Bool} : Ev K B (tC (.bl s)) env (.im (.bl s)) := fun F H σ R Q q => q _ F H (Gr.refl R.kn) (.bl s)
theorem ev_non : Ev K B (tC .non) env (.im .non) := fun F H σ R Q q => q _ F H (Gr.refl R.kn) .non
/-- a module's own tuple -/
theorem ev_refT {p : Addr} {xs : List V} {ds : List D} (h : ∀ H, SqT K H p xs) (k : ∀ F, RpL K F xs ds) : Ev K B (tC (.ref p)) env (.im (.tup ds)) := fun F H σ R Q q => q _ F H (Gr.refl R.kn) (.tup (h F) (k F))

/-! ### operations -/
theorem ev_op {r2 : R2} (ha : Ev K B ta env a) (hb : Ev K B tb env b) (hr : RV K r2 a b c) : Ev K B (tOp r2 ta tb) env c := fun F H σ R Q q =>
  ha F H σ R _ fun x F1 H1 g1 x1 => hb F1 H1 σ (R.step g1) _ fun y F2 H2 g2 y2 =>
    hr B F2 H2 x y g2.kn ⟨_, x1.step g2⟩ ⟨_, y2⟩ Q fun v F3 H3 g3 v3 => q v F3 H3 ((g1.trans g2).trans g3) (v3.back (g1.mo.trans g2.mo))
theorem ev_un {r2 : V → Hp → VK → Prop} (ha : Ev K B ta env a) (hr : RU K r2 a c) : Ev K B (tUn r2 ta) env c := fun F H σ R Q q =>
  ha F H σ R _ fun x F1 H1 g1 x1 => hr B F1 H1 x g1.kn ⟨_, x1⟩ Q fun v F3 H3 g3 v3 => q v F3 H3 (g1.trans g3) (v3.back g1.mo)
theorem ev_cb {r2 : List V → Hp → VK → Prop} {t : TA} {as : List Vl} (ha : EvA K B t env as) (hr : RC K r2 as c) : Ev K B (tCB r2 t) env c := fun F H σ R Q q =>
  ha F H σ R _ fun x F1 H1 g1 x1 => hr B F1 H1 x g1.kn ⟨_, x1⟩ Q fun v F3 H3 g3 v3 => q v F3 H3 (g1.trans g3) (v3.back g1.mo)
theorem ea_nil : EvA K B tNil env [] := fun F H σ R Q q => q [] F H (Gr.refl R.kn) .nil
theorem ea_cons {t : TA} {as : List Vl} (ha : Ev K B ta env a) (ht : EvA K B t env as) : EvA K B (tCons ta t) env (a :: as) := fun F H σ R Q q =>
  ha F H σ R _ fun x F1 H1 g1 x1 => ht F1 H1 σ (R.step g1) _ fun y F2 H2 g2 y2 => q (x :: y) F2 H2 (g1.trans g2) (.cons (x1.step g2) (y2.back g1.mo))
theorem et_test {bb : Bool} (h : Ev K B te env (.im (.bl bb))) : EvT K B (tTest te) env bb := fun F H σ R Q q =>
  h F H σ R _ fun v F1 H1 g1 x1 => by
    have x1 : Rp K F1 v (.bl bb) := x1
    cases x1
    exact ⟨bb, rfl, q F1 H1 g1⟩
theorem et_B {bb : Bool} (h : Ev K B te env (.im (.bl bb))) : EvT K B (tB te) env bb := fun F H σ R Q q =>
  h F H σ R _ fun v F1 H1 g1 x1 => by
    have x1 : Rp K F1 v (.bl bb) := x1
    cases x1
    exact ⟨bb, rfl, q F1 H1 g1⟩
theorem et_is {t : TT} {p q : Bool} (h : EvT K B t env p) (e : p = q) : EvT K B t env q := e ▸ h
theorem ev_is (h : Ev K B te env a) (e : a = b) : Ev K B te env b := e ▸ h
theorem et_and {t u : TT} {p q : Bool} (h : EvT K B t env p) (k : p = true → EvT K B u env q) : EvT K B (tAnd t u) env (p && q) := fun F H σ R Q w =>
  h F H σ R _ fun F1 H1 g1 => by
    cases p with
    | true => exact k rfl F1 H1 σ (R.step g1) Q fun F2 H2 g2 => w F2 H2 (g1.trans g2)
    | false => exact w F1 H1 g1
theorem et_or {t u : TT} {p q : Bool} (h : EvT K B t env p) (k : p = false → EvT K B u env q) : EvT K B (tOr t u) env (p || q) := fun F H σ R Q w =>
  h F H σ R _ fun F1 H1 g1 => by
    cases p with
    | true => exact w F1 H1 g1
    | false => exact k rfl F1 H1 σ (R.step g1) Q fun F2 H2 g2 => w F2 H2 (g1.trans g2)
theorem et_not {t : TT} {p : Bool} (h : EvT K B t env p) : EvT K B (tNot t) env (!p) := fun F H σ R Q w => h F H σ R _ fun F1 H1 g1 => w F1 H1 g1
theorem ev_andV {p q : Bool} (h : Ev K B ta env (.im (.bl p))) (k : p = true → Ev K B tb env (.im (.bl q))) : Ev K B (tAndV ta tb) env (.im (.bl (p && q))) := fun F H σ R Q w =>
  h F H σ R _ fun v F1 H1 g1 x1 => by
    have x1 : Rp K F1 v (.bl p) := x1
    cases x1
    refine ⟨p, rfl, ?_⟩
    cases p with
    | true => exact k rfl F1 H1 σ (R.step g1) Q fun v F2 H2 g2 => w v F2 H2 (g1.trans g2)
    | false => exact w _ F1 H1 g1 (.bl false)
theorem ev_orV {p q : Bool} (h : Ev K B ta env (.im (.bl p))) (k : p = false → Ev K B tb env (.im (.bl q))) : Ev K B (tOrV ta tb) env (.im (.bl (p || q))) := fun F H σ R Q w =>
  h F H σ R _ fun v F1 H1 g1 x1 => by
    have x1 : Rp K F1 v (.bl p) := x1
    cases x1
    refine ⟨p, rfl, ?_⟩
    cases p with
    | true => exact w _ F1 H1 g1 (.bl true)
    | false => exact k rfl F1 H1 σ (R.step g1) Q fun v F2 H2 g2 => w v F2 H2 (g1.trans g2)
theorem ev_notV {p : Bool} (h : Ev K B ta env (.im (.bl p))) : Ev K B (tNotV ta) env (.im (.bl (!p))) := fun F H σ R Q w =>
  h F H σ R _ fun v F1 H1 g1 x1 => by
    have x1 : Rp K F1 v (.bl p) := x1
    cases x1
    exact ⟨p, rfl, w _ F1 H1 g1 (.bl _)⟩
theorem ev_if {t : TT} {p : Bool} (h : EvT K B t env p) (h1 : p = true → Ev K B ta env a) (h2 : p = false → Ev K B tb env a) : Ev K B (tIf t ta tb) env a := fun F H σ R Q w =>
  h F H σ R _ fun F1 H1 g1 => by
    cases p with
    | true => exact h1 rfl F1 H1 σ (R.step g1) Q fun v F2 H2 g2 x => w v F2 H2 (g1.trans g2) (x.back g1.mo)
    | false => exact h2 rfl F1 H1 σ (R.step g1) Q fun v F2 H2 g2 x => w v F2 H2 (g1.trans g2) (x.back g1.mo)
end
end NM
/-! Statements upon data (Sx), what is walked, comprehensions. -/
namespace NM
open PySem PySem.Spec PyProof.Rows L2
variable [Tbs]

def SlS (K : PySem.W.Frag) (B F O : Hp) (x : Option (Option V)) : Sl → Prop
  | .un => True
  | .im d => ∃ v, x = some (some v) ∧ Rp K F v d
  | .ow o => ∃ v, x = some (some v) ∧ o.φ K F O v
  | .br o => ∃ v, x = some (some v) ∧ o.φ K F B v
/-- two parts of one's own that share no place -/
def OffP (O P : Hp) : Prop := ∀ a u, O a = some u → P a = none
/-- the state of a def at work: H0, F0 at its entry; Os the parts of its own things -/
structure RelW (K : PySem.W.Frag) (B H0 F0 F H : Hp) (σ : L2.St) (env : Env) (Os : Nat → Hp) : Prop where
  gr : Gr F0 F H0 H
  bn : Bn B H0
  len : σ.length = env.length
  sl : ∀ (i : Nat) (s : Sl), env[i]? = some s → SlS K B F (Os i) (σ[i]?) s
  oo : ∀ i j, i ≠ j → OffP (Os i) (Os j)
  of : ∀ i, Off (Os i) F
  oz : ∀ i, Off (Os i) H0
  oh : ∀ i a u, Os i a = some u → H a = some u ∧ NX u
def RelS (K : PySem.W.Frag) (B H0 F0 F H : Hp) (σ : L2.St) (env : Env) : Prop := ∃ Os, RelW K B H0 F0 F H σ env Os
theorem OffP.none_of {O F : Hp} {a : Addr} {u : HO} (h : OffP O F) (e : F a = some u) : O a = none := by
  cases q : O a with
  | none => rfl
  | some w =>
    rw [h a w q] at e
    cases e
theorem OffP.symm {O F : Hp} (h : OffP O F) : OffP F O := fun a u e => h.none_of e
theorem Off.none_of {O F : Hp} {a : Addr} {u : HO} (h : Off O F) (n : NT u) (e : F a = some u) : O a = none := by
  cases q : O a with
  | none => rfl
  | some w => exact absurd e (h a w q u n)
section
variable {K : PySem.W.Frag} {B H0 F0 F F' H H' : Hp} {σ : L2.St} {env : Env} {Os : Nat → Hp}
theorem SlS.mono {O : Hp} {x : Option (Option V)} {s : Sl} (k : Kn F F') (h : SlS K B F O x s) : SlS K B F' O x s := by
  cases s with
  | un => trivial
  | im d => obtain ⟨v, a, b⟩ := h; exact ⟨v, a, b.mono k⟩
  | ow o => obtain ⟨v, a, c⟩ := h; exact ⟨v, a, o.mono k c⟩
  | br o => obtain ⟨v, a, c⟩ := h; exact ⟨v, a, o.mono k (Kn.refl _) c⟩
theorem RelW.e (R : RelW K B H0 F0 F H σ env Os) : RelE K B F H σ env :=
  ⟨R.gr.kn, R.bn.step R.gr, R.len, fun i s e => by
    have h := R.sl i s e
    cases s with
    | un => trivial
    | im d => exact h
    | ow o => obtain ⟨v, a, c⟩ := h; exact ⟨v, Os i, a, .of fun x u _ q => (R.oh i x u q).1, c⟩
    | br o => exact h⟩
theorem RelS.e (R : RelS K B H0 F0 F H σ env) : RelE K B F H σ env := let ⟨_, R⟩ := R; R.e
theorem RelW.step (g : Gr F F' H H') (R : RelW K B H0 F0 F H σ env Os) : RelW K B H0 F0 F' H' σ env Os :=
  ⟨R.gr.trans g, R.bn, R.len, fun i s e => (R.sl i s e).mono g.fk, R.oo, fun i a u e => g.fr a u (R.oh i a u e).2.1 (R.oh i a u e).1 (R.of i a u e), R.oz, fun i a u e => ⟨g.hh a u (R.oh i a u e).2.1 (R.oh i a u e).1, (R.oh i a u e).2⟩⟩
theorem RelS.step (g : Gr F F' H H') (R : RelS K B H0 F0 F H σ env) : RelS K B H0 F0 F' H' σ env := let ⟨Os, R⟩ := R; ⟨Os, R.step g⟩
theorem get_set_self {α : Type} {l : List α} {i : Nat} {x s : α} (h : (l.set i x)[i]? = some s) : s = x ∧ i < l.length := by
  have hi : i < l.length := by
    have := (List.getElem?_eq_some_iff.mp h).1
    rw [List.length_set] at this
    exact this
  rw [List.getElem?_set_self hi] at h
  exact ⟨(Option.some.inj h).symm, hi⟩
theorem RelW.setI {v : V} {d : D} {i : Nat} (R : RelW K B H0 F0 F H σ env Os) (r : Rp K F v d) : RelW K B H0 F0 F H (σ.set i (some v)) (env.set i (.im d)) Os := by
  refine ⟨R.gr, R.bn, by rw [List.length_set, List.length_set]; exact R.len, fun j s e => ?_, R.oo, R.of, R.oz, R.oh⟩
  by_cases q : j = i
  · subst q
    obtain ⟨rfl, hi⟩ := get_set_self e
    exact ⟨v, List.getElem?_set_self (by rw [R.len]; exact hi), r⟩
  · rw [List.getElem?_set_ne (Ne.symm q)] at e
    rw [List.getElem?_set_ne (Ne.symm q)]
    exact R.sl j s e
theorem RelS.setI {v : V} {d : D} {i : Nat} (R : RelS K B H0 F0 F H σ env) (r : Rp K F v d) : RelS K B H0 F0 F H (σ.set i (some v)) (env.set i (.im d)) := let ⟨Os, R⟩ := R; ⟨Os, R.setI r⟩
theorem RelS.setB {v : V} {o : Ob} {i : Nat} (R : RelS K B H0 F0 F H σ env) (r : o.φ K F B v) : RelS K B H0 F0 F H (σ.set i (some v)) (env.set i (.br o)) := by
  obtain ⟨Os, R⟩ := R
  refine ⟨Os, R.gr, R.bn, by rw [List.length_set, List.length_set]; exact R.len, fun j s e => ?_, R.oo, R.of, R.oz, R.oh⟩
  by_cases q : j = i
  · subst q
    obtain ⟨rfl, hi⟩ := get_set_self e
    exact ⟨v, List.getElem?_set_self (by rw [R.len]; exact hi), r⟩
  · rw [List.getElem?_set_ne (Ne.symm q)] at e
    rw [List.getElem?_set_ne (Ne.symm q)]
    exact R.sl j s e
/-- another part for the i-th slot's thing -/
def re (Os : Nat → Hp) (i : Nat) (O : Hp) : Nat → Hp := fun j => if j = i then O else Os j
theorem re_same {i : Nat} {O : Hp} : re Os i O i = O := if_pos rfl
theorem re_ne {i j : Nat} {O : Hp} (h : j ≠ i) : re Os i O j = Os j := if_neg h
theorem RelW.setO {v : V} {o : Ow} {i : Nat} {O : Hp} (R : RelW K B H0 F0 F H σ env Os) (h1 : ∀ a u, O a = some u → H a = some u ∧ NX u) (h2 : Off O F) (h3 : ∀ j, j ≠ i → OffP O (Os j)) (h4 : Off O H0) (r : o.φ K F O v) :
    RelW K B H0 F0 F H (σ.set i (some v)) (env.set i (.ow o)) (re Os i O) := by
  refine ⟨R.gr, R.bn, by rw [List.length_set, List.length_set]; exact R.len, fun j s e => ?_, fun j k n => ?_, fun j => ?_, fun j => ?_, fun j => ?_⟩
  · by_cases q : j = i
    · subst q
      obtain ⟨rfl, hi⟩ := get_set_self e
      rw [re_same]
      exact ⟨v, List.getElem?_set_self (by rw [R.len]; exact hi), r⟩
    · rw [List.getElem?_set_ne (Ne.symm q)] at e
      rw [List.getElem?_set_ne (Ne.symm q), re_ne q]
      exact R.sl j s e
  · by_cases q : j = i
    · subst q
      rw [re_same, re_ne (Ne.symm n)]
      exact h3 k (Ne.symm n)
    · rw [re_ne q]
      by_cases p : k = i
      · subst p
        rw [re_same]
        exact (h3 j q).symm
      · rw [re_ne p]
        exact R.oo j k n
  · by_cases q : j = i
    · rw [q, re_same]; exact h2
    · rw [re_ne q]; exact R.of j
  · by_cases q : j = i
    · rw [q, re_same]; exact h4
    · rw [re_ne q]; exact R.oz j
  · by_cases q : j = i
    · rw [q, re_same]; exact h1
    · rw [re_ne q]; exact R.oh j
theorem RelS.setW {v : V} {o : Ow} {i : Nat} (R : RelS K B H0 F0 F H σ env) (g : Gr F F' H H') (r : VlOk K B H F' H' v (.nw o)) : RelS K B H0 F0 F' H' (σ.set i (some v)) (env.set i (.ow o)) := by
  obtain ⟨Os, R⟩ := R
  obtain ⟨O, h1, h2, h3, h4⟩ := r
  refine ⟨_, (R.step g).setO h1 h2 (fun j _ a u e => ?_) (fun a u e => R.gr.mo a (h3 a u e)) h4⟩
  cases q : Os j a with
  | none => rfl
  | some w =>
    obtain ⟨q1, q2⟩ := R.oh j a w q
    exact absurd q1 (h3 a u e w q2.1)
/-- a slot's own data are frozen -/
theorem RelS.freeze {d : D} {i : Nat} (R : RelS K B H0 F0 F H σ env) (h : env[i]? = some (.ow (oM d))) : ∃ F', RelS K B H0 F0 F' H σ (env.set i (.im d)) := by
  obtain ⟨Os, R⟩ := R
  obtain ⟨v, e, r⟩ := R.sl i _ h
  have k : Kn F (join F (Os i)) := .of (join_kn (R.of i))
  refine ⟨join F (Os i), re Os i (fun _ => none), R.gr.freeze (R.oh i) (R.of i) (R.oz i), R.bn, by rw [List.length_set]; exact R.len, fun j s q => ?_, fun j l n => ?_, fun j => ?_, fun j => ?_, fun j => ?_⟩
  · by_cases p : j = i
    · subst p
      obtain ⟨rfl, _⟩ := get_set_self q
      exact ⟨v, e, oM_freeze (R.of j) r⟩
    · rw [List.getElem?_set_ne (Ne.symm p)] at q
      rw [re_ne p]
      exact (R.sl j s q).mono k
  · by_cases p : j = i
    · subst p
      rw [re_same]
      exact fun a u z => nomatch z
    · rw [re_ne p]
      by_cases p' : l = i
      · subst p'
        rw [re_same]
        exact fun a u z => rfl
      · rw [re_ne p']
        exact R.oo j l n
  · by_cases p : j = i
    · subst p
      rw [re_same]
      exact fun a u z => nomatch z
    · rw [re_ne p]
      exact fun a u z w m => by rw [join_out ((R.oo j i p) a u z)]; exact R.of j a u z w m
  · by_cases p : j = i
    · subst p
      rw [re_same]
      exact fun a u z => nomatch z
    · rw [re_ne p]
      exact R.oz j
  · by_cases p : j = i
    · subst p
      rw [re_same]
      exact fun a u z => nomatch z
    · rw [re_ne p]
      exact R.oh j
/-- a slot is forgotten -/
theorem RelS.drop {i : Nat} (R : RelS K B H0 F0 F H σ env) : RelS K B H0 F0 F H σ (env.set i .un) := by
  obtain ⟨Os, R⟩ := R
  refine ⟨Os, R.gr, R.bn, by rw [List.length_set]; exact R.len, fun j s q => ?_, R.oo, R.of, R.oz, R.oh⟩
  by_cases p : j = i
  · subst p
    obtain ⟨rfl, _⟩ := get_set_self q
    trivial
  · rw [List.getElem?_set_ne (Ne.symm p)] at q
    exact R.sl j s q
/-- the i-th slot's own thing is written: its part O becomes O' -/
theorem RelW.write {v : V} {o : Ow} {i : Nat} {O' : Hp} {H' : Hp} (R : RelW K B H0 F0 F H σ env Os) (hi : i < env.length) (hv : σ[i]? = some (some v)) (same : ∀ a, Os i a = none → H' a = H a) (dom : ∀ a u, O' a = some u → ∃ w, Os i a = some w) (hO : ∀ a u, O' a = some u → H' a = some u ∧ NX u)
    (r : o.φ K F O' v) : RelW K B H0 F0 F H' σ (env.set i (.ow o)) (re Os i O') := by
  have off : ∀ {G : Hp}, Off (Os i) G → Off O' G := fun {G} h a u e => let ⟨w, q⟩ := dom a u e; h a w q
  have offP : ∀ {G : Hp}, OffP (Os i) G → OffP O' G := fun {G} h a u e => let ⟨w, q⟩ := dom a u e; h a w q
  refine ⟨⟨R.gr.ff, R.gr.fr, fun a u n e => ?_, fun t => tabs_of (fun a u n e => ?_) (R.gr.tb t), fun a u n e => ?_⟩, R.bn, by rw [List.length_set]; exact R.len, fun j s e => ?_, fun j k n => ?_, fun j => ?_, fun j => ?_, fun j a u e => ?_⟩
  · rw [same a ((R.oz i).none_of n e)]
    exact R.gr.hh a u n e
  · rw [same a]
    · exact e
    · cases q : Os i a with
      | none => rfl
      | some w =>
        obtain ⟨q1, q2⟩ := R.oh i a w q
        rw [q1] at e
        cases e
        exact absurd q2 n
  · rw [same a ((R.of i).none_of n e)]
    exact R.gr.kn a u n e
  · by_cases q : j = i
    · subst q
      obtain ⟨rfl, _⟩ := get_set_self e
      rw [re_same]
      exact ⟨v, hv, r⟩
    · rw [List.getElem?_set_ne (Ne.symm q)] at e
      rw [re_ne q]
      exact R.sl j s e
  · by_cases q : j = i
    · subst q
      rw [re_same, re_ne (Ne.symm n)]
      exact offP (R.oo j k n)
    · rw [re_ne q]
      by_cases p : k = i
      · subst p
        rw [re_same]
        exact (offP (R.oo k j (Ne.symm n))).symm
      · rw [re_ne p]
        exact R.oo j k n
  · by_cases q : j = i
    · rw [q, re_same]; exact off (R.of i)
    · rw [re_ne q]; exact R.of j
  · by_cases q : j = i
    · rw [q, re_same]; exact off (R.oz i)
    · rw [re_ne q]; exact R.oz j
  · by_cases q : j = i
    · rw [q, re_same] at e; exact hO a u e
    · rw [re_ne q] at e
      rw [same a ((R.oo i j (Ne.symm q)).none_of e)]
      exact R.oh j a u e
end

/-! ### statements -/
inductive Out where
  | nx (e : Env) | rt (r : Vl) | bk (e : Env) | ct (e : Env) | ex (C : Addr)
/-- what an end must give -/
def Cont (K : PySem.W.Frag) (B : Hp) (W : WX) (H0 F0 : Hp) (D : Ends) : Out → Prop
  | .nx e => ∀ F H σ, RelS K B H0 F0 F H σ e → D.nx σ H
  | .bk e => ∀ F H σ, RelS K B H0 F0 F H σ e → D.bk σ H
  | .ct e => ∀ F H σ, RelS K B H0 F0 F H σ e → D.ct σ H
  | .rt (.im d) => ∀ F H v, Gr F0 F H0 H → VlOk K B H0 F H v (.im d) → D.rt v H
  | .rt (.nw o) => ∀ F H v, Gr F0 F H0 H → VlOk K B H0 F H v (.nw o) → D.rt v H
  | .rt _ => False
  | .ex C => ∀ F H σ, Gr F0 F H0 H → W (.ref C) none σ H
def Sx (K : PySem.W.Frag) (B : Hp) (W : WX) (ts : TS) (env : Env) (P : Out → Prop) : Prop :=
  ∀ H0 F0 F H σ, RelS K B H0 F0 F H σ env → ∀ D : Ends, (∀ o, P o → Cont K B W H0 F0 D o) → ts D σ H
/-- the ends of a first part, where u comes behind -/
def sq (K : PySem.W.Frag) (B : Hp) (W : WX) (u : TS) (P : Out → Prop) : Out → Prop
  | .nx e => Sx K B W u e P
  | o => P o
/-- the ends of a loop's body -/
def lp (I : Env → Prop) (P : Out → Prop) : Out → Prop
  | .nx e => I e
  | .ct e => I e
  | .bk e => P (.nx e)
  | o => P o
section
variable {K : PySem.W.Frag} {B : Hp} {W : WX} {env : Env} {t u : TS} {te ta tb : TE} {c : TT} {P P' : Out → Prop} {d : D} {o : Ow} {i j : Nat}
theorem sx_weak (h : Sx K B W t env P') (k : ∀ o, P' o → P o) : Sx K B W t env P := fun H0 F0 F H σ R D q => h H0 F0 F H σ R D fun o p => q o (k o p)
theorem sx_seq (h : Sx K B W t env (sq K B W u P)) : Sx K B W (tSeq t u) env P := fun H0 F0 F H σ R D q => by
  refine h H0 F0 F H σ R { D with nx := u D } fun o p => ?_
  cases o with
  | nx e => exact fun F' H' σ' R' => (show Sx K B W u e P from p) H0 F0 F' H' σ' R' D q
  | rt r => cases r <;> exact q _ p
  | bk e => exact q _ p
  | ct e => exact q _ p
  | ex C => exact q _ p
theorem sx_next (p : P (.nx env)) : Sx K B W tNext env P := fun H0 F0 F H σ R D q => q _ p F H σ R
theorem sx_brk (p : P (.bk env)) : Sx K B W tBreak env P := fun H0 F0 F H σ R D q => q _ p F H σ R
theorem sx_cont (p : P (.ct env)) : Sx K B W tCont env P := fun H0 F0 F H σ R D q => q _ p F H σ R
theorem sx_asg (h : Ev K B te env (.im d)) (p : P (.nx (env.set i (.im d)))) : Sx K B W (tAsg te (gName i)) env P := fun H0 F0 F H σ R D q =>
  h F H σ R.e _ fun v F' H' g r => q _ p F' H' _ ((R.step g).setI r)
theorem sx_asgW (h : Ev K B te env (.nw o)) (p : P (.nx (env.set i (.ow o)))) : Sx K B W (tAsg te (gName i)) env P := fun H0 F0 F H σ R D q =>
  h F H σ R.e _ fun v F' H' g r => q _ p F' H' _ (R.setW g r)
theorem sx_asgB {o : Ob} (h : Ev K B te env (.br o)) (p : P (.nx (env.set i (.br o)))) : Sx K B W (tAsg te (gName i)) env P := fun H0 F0 F H σ R D q =>
  h F H σ R.e _ fun v F' H' g r => q _ p F' H' _ ((R.step g).setB r)
theorem sx_drop {r : Vl} (h : Ev K B te env r) (p : P (.nx env)) : Sx K B W (tDrop te) env P := fun H0 F0 F H σ R D q =>
  h F H σ R.e _ fun v F' H' g _ => q _ p F' H' _ (R.step g)
theorem sx_ret (h : Ev K B te env (.im d)) (p : P (.rt (.im d))) : Sx K B W (tRet te) env P := fun H0 F0 F H σ R D q =>
  h F H σ R.e _ fun v F' H' g r => by
    obtain ⟨Os, R⟩ := R
    exact q _ p F' H' v (R.gr.trans g) r
theorem sx_retW (h : Ev K B te env (.nw o)) (p : P (.rt (.nw o))) : Sx K B W (tRet te) env P := fun H0 F0 F H σ R D q =>
  h F H σ R.e _ fun v F' H' g r => by
    obtain ⟨Os, R⟩ := R
    exact q _ p F' H' v (R.gr.trans g) (r.back R.gr.mo)
/-- return x, x a slot of one's own -/
theorem sx_retO (h : env[i]? = some (.ow o)) (p : P (.rt (.nw o))) : Sx K B W (tRet (tVar i)) env P := fun H0 F0 F H σ R D q => by
  obtain ⟨Os, R⟩ := R
  obtain ⟨v, e, r⟩ := R.sl i _ h
  exact ⟨v, e, q _ p F H v R.gr ⟨Os i, R.oh i, R.of i, R.oz i, r⟩⟩
theorem sx_retN (p : P (.rt (.im .non))) : Sx K B W tRetN env P := fun H0 F0 F H σ R D q => by
  obtain ⟨Os, R⟩ := R
  exact q _ p F H .non R.gr .non
theorem sx_if {b : Bool} (h : EvT K B c env b) (h1 : b = true → Sx K B W t env P) (h2 : b = false → Sx K B W u env P) : Sx K B W (tIfS c t u) env P := fun H0 F0 F H σ R D q =>
  h F H σ R.e _ fun F' H' g => by
    cases b with
    | true => exact h1 rfl H0 F0 F' H' σ (R.step g) D q
    | false => exact h2 rfl H0 F0 F' H' σ (R.step g) D q
theorem sx_freeze (h : env[i]? = some (.ow (oM d))) (k : Sx K B W t (env.set i (.im d)) P) : Sx K B W t env P := fun H0 F0 F H σ R D q =>
  let ⟨F', R'⟩ := R.freeze h
  k H0 F0 F' H σ R' D q
theorem sx_forget (i : Nat) (k : Sx K B W t (env.set i .un) P) : Sx K B W t env P := fun H0 F0 F H σ R D q => k H0 F0 F H σ R.drop D q
theorem sx_while (Inv : Nat → Env → Prop) (h0 : ∃ m, Inv m env)
    (hs : ∀ m e, Inv m e → ∃ b, EvT K B c e b ∧ (b = true → Sx K B W t e (lp (fun e' => ∃ m', m' < m ∧ Inv m' e') P)) ∧ (b = false → P (.nx e))) : Sx K B W (tWhile c t) env P := fun H0 F0 F H σ R D q => by
  refine ⟨fun m σ' H' => ∃ e F', Inv m e ∧ RelS K B H0 F0 F' H' σ' e, let ⟨m, i⟩ := h0; ⟨m, env, F, i, R⟩, fun m σ1 H1 ⟨e, F1, i1, R1⟩ => ?_⟩
  obtain ⟨b, hc, ht, hf⟩ := hs m e i1
  refine hc F1 H1 σ1 R1.e _ fun F2 H2 g2 => ?_
  cases b with
  | true =>
    refine ⟨fun σ' H' => ∃ m', m' < m ∧ ∃ e F', Inv m' e ∧ RelS K B H0 F0 F' H' σ' e, fun σ' H' ⟨m', l, z⟩ => ⟨m', l, z⟩, ?_⟩
    refine ht rfl H0 F0 F2 H2 σ1 (R1.step g2) _ fun o p => ?_
    cases o with
    | nx e' => obtain ⟨m', l, i'⟩ := p; exact fun F' H' σ' R' => ⟨m', l, e', F', i', R'⟩
    | ct e' => obtain ⟨m', l, i'⟩ := p; exact fun F' H' σ' R' => ⟨m', l, e', F', i', R'⟩
    | bk e' => exact q _ (show P (.nx e') from p)
    | rt r => cases r <;> exact q _ p
    | ex C => exact q _ p
  | false => exact q _ (hf rfl) F2 H2 σ1 (R1.step g2)
end

/-! ### what is walked -/
/-- the items' values stand for data, the walk is told: while what H' knows is kept -/
def IterI (K : PySem.W.Frag) (wi : TI) (σ : L2.St) (F H : Hp) (ds : List D) : Prop :=
  ∀ R : It → Hp → Prop, (∀ (J : It) (F' H' : Hp) (G : Hp → Prop) (Y : Nat → Hp → V → Hp → Prop), Gr F F' H H' → Walk J ds.length G Y → (∀ H2, Kn F' H2 → (∀ a u, NT u → H' a = some u → H2 a = some u) → G H2) →
    (∀ i H1 x H2, i < ds.length → Y i H1 x H2 → ∀ F1, Kn F1 H1 → (∀ a u, NT u → F' a = some u → F1 a = some u) → ∃ F2 d, Gr F1 F2 H1 H2 ∧ ds[i]? = some d ∧ Rp K F2 x d) → R J H') → wi σ H R
/-- .. while what F' knows is kept -/
def IterF (K : PySem.W.Frag) (wi : TI) (σ : L2.St) (F H : Hp) (ds : List D) : Prop :=
  ∀ R : It → Hp → Prop, (∀ (J : It) (F' H' : Hp) (G : Hp → Prop) (Y : Nat → Hp → V → Hp → Prop), Gr F F' H H' → Walk J ds.length G Y → (∀ H2, Kn F' H2 → G H2) →
    (∀ i H1 x H2, i < ds.length → Y i H1 x H2 → ∀ F1, Kn F1 H1 → (∀ a u, NT u → F' a = some u → F1 a = some u) → ∃ F2 d, Gr F1 F2 H1 H2 ∧ ds[i]? = some d ∧ Rp K F2 x d) → R J H') → wi σ H R
def EvI (K : PySem.W.Frag) (B : Hp) (wi : TI) (env : Env) (ds : List D) : Prop := ∀ F H σ, RelE K B F H σ env → IterI K wi σ F H ds
def EvF (K : PySem.W.Frag) (B : Hp) (wi : TI) (env : Env) (ds : List D) : Prop := ∀ F H σ, RelE K B F H σ env → IterF K wi σ F H ds
/-- a target: it takes an item d apart into ds, at the slots js -/
def setS : L2.St → List Nat → List V → L2.St
  | σ, j :: js, v :: vs => setS (σ.set j (some v)) js vs
  | σ, _, _ => σ
def setD : Env → List Nat → List D → Env
  | e, j :: js, d :: ds => setD (e.set j (.im d)) js ds
  | e, _, _ => e
def EvG (K : PySem.W.Frag) (g : TG) (js : List Nat) (d : D) (ds : List D) : Prop :=
  ∀ F H v, Kn F H → Rp K F v d → ∃ vs, RpL K F vs ds ∧ ∀ (σ : L2.St) (Q : L2.St → Hp → Prop), Q (setS σ js vs) H → g v σ H Q
section
variable {K : PySem.W.Frag} {B H0 F0 F H : Hp} {σ : L2.St} {env : Env} {d : D}
theorem EvF.i {wi : TI} {ds : List D} (h : EvF K B wi env ds) : EvI K B wi env ds := fun F H σ R Q q => h F H σ R Q fun J F' H' G Y g w s y => q J F' H' G Y g w (fun H2 k _ => s H2 k) y
theorem RelS.sets : ∀ {js : List Nat} {vs : List V} {ds : List D} {σ : L2.St} {env : Env}, RelS K B H0 F0 F H σ env → RpL K F vs ds → RelS K B H0 F0 F H (setS σ js vs) (setD env js ds)
  | [], _, _, _, _, R, .nil => R
  | [], _, _, _, _, R, .cons _ _ => R
  | _ :: _, _, _, _, _, R, .nil => R
  | j :: js, _, _, _, _, R, .cons a b => RelS.sets (js := js) (R.setI a) b
theorem RelE.setI {v : V} {i : Nat} (R : RelE K B F H σ env) (r : Rp K F v d) : RelE K B F H (σ.set i (some v)) (env.set i (.im d)) := by
  refine ⟨R.kn, R.bn, by rw [List.length_set, List.length_set]; exact R.len, fun j s e => ?_⟩
  by_cases q : j = i
  · subst q
    obtain ⟨rfl, hi⟩ := get_set_self e
    exact ⟨v, List.getElem?_set_self (by rw [R.len]; exact hi), r⟩
  · rw [List.getElem?_set_ne (Ne.symm q)] at e
    rw [List.getElem?_set_ne (Ne.symm q)]
    exact R.sl j s e
theorem RelE.sets : ∀ {js : List Nat} {vs : List V} {ds : List D} {σ : L2.St} {env : Env}, RelE K B F H σ env → RpL K F vs ds → RelE K B F H (setS σ js vs) (setD env js ds)
  | [], _, _, _, _, R, .nil => R
  | [], _, _, _, _, R, .cons _ _ => R
  | _ :: _, _, _, _, _, R, .nil => R
  | j :: js, _, _, _, _, R, .cons a b => RelE.sets (js := js) (R.setI a) b
theorem eg_name {j : Nat} : EvG K (gName j) [j] d [d] := fun F H v k r => ⟨[v], .cons r .nil, fun σ Q q => q⟩
theorem eg_two {i j : Nat} {a b : D} : EvG K (gTup K 2 (gCons (gName i) (gCons (gName j) gNil))) [i, j] (.tup [a, b]) [a, b] := fun F H v k r => by
  cases r with
  | tup q r =>
    cases r with
    | cons r1 r =>
      cases r with
      | cons r2 r =>
        cases r
        exact ⟨_, .cons r1 (.cons r2 .nil), fun σ Q z => ⟨_, _, rfl, k.sqT q, rfl, _, _, rfl, _, _, rfl, rfl, z⟩⟩
theorem eg_three {i j l : Nat} {a b c : D} : EvG K (gTup K 3 (gCons (gName i) (gCons (gName j) (gCons (gName l) gNil)))) [i, j, l] (.tup [a, b, c]) [a, b, c] := fun F H v k r => by
  cases r with
  | tup q r =>
    cases r with
    | cons r1 r =>
      cases r with
      | cons r2 r =>
        cases r with
        | cons r3 r =>
          cases r
          exact ⟨_, .cons r1 (.cons r2 (.cons r3 .nil)), fun σ Q z => ⟨_, _, rfl, k.sqT q, rfl, _, _, rfl, _, _, rfl, _, _, rfl, rfl, z⟩⟩
theorem sx_asgG {W : WX} {P : Out → Prop} {te : TE} {g : TG} {js : List Nat} {ds : List D} (h : Ev K B te env (.im d)) (hg : EvG K g js d ds) (p : P (.nx (setD env js ds))) : Sx K B W (tAsg te g) env P := fun H0 F0 F H σ R D q =>
  h F H σ R.e _ fun v F' H' gr r => by
    obtain ⟨vs, rv, k⟩ := hg F' H' v gr.kn r
    exact k σ _ (q _ p F' H' _ ((R.step gr).sets rv))
end
/-! ### a new entry within a def: what is not one's own is from now on what stood ahead -/
theorem RelS.enter {K : PySem.W.Frag} {B H0 F0 F H : Hp} {σ : L2.St} {env : Env} (R : RelS K B H0 F0 F H σ env) : ∃ H1, Gr F0 F H0 H1 ∧ RelS K B H1 F F H σ env ∧ (∀ a u, H1 a = some u → H a = some u) ∧ ∀ a u, NT u → F a = some u ∨ H0 a = some u → H1 a = H a := by
  obtain ⟨Os, R⟩ := R
  have cl : ∀ a, Decidable (∃ i u, Os i a = some u) := fun a => Classical.propDecidable _
  generalize hH1 : (fun a => if ∃ i u, Os i a = some u then none else H a : Hp) = H1
  have out : ∀ a, (∀ i, Os i a = none) → H1 a = H a := fun a h => by
    rw [← hH1]
    exact if_neg fun ⟨i, u, e⟩ => by rw [h i] at e; cases e
  have inn : ∀ i a u, Os i a = some u → H1 a = none := fun i a u e => by
    rw [← hH1]
    exact if_pos ⟨i, u, e⟩
  have le : ∀ a u, H1 a = some u → H a = some u := fun a u e => by
    by_cases q : ∃ i u, Os i a = some u
    · obtain ⟨i, w, q⟩ := q
      rw [inn i a w q] at e
      cases e
    · rw [out a (fun i => by
        cases z : Os i a with
        | none => rfl
        | some w => exact absurd ⟨i, w, z⟩ q)] at e
      exact e
  have atF : ∀ a u, NT u → F a = some u → H1 a = H a := fun a u n e => out a fun i => (R.of i).none_of n e
  have at0 : ∀ a u, NT u → H0 a = some u → H1 a = H a := fun a u n e => out a fun i => (R.oz i).none_of n e
  have g1 : Gr F0 F H0 H1 := ⟨R.gr.ff, R.gr.fr, fun a u n e => by rw [at0 a u n e]; exact R.gr.hh a u n e, fun t => tabs_of (fun a u n e => by
    rw [out a fun i => ?_]
    · exact e
    · cases q : Os i a with
      | none => rfl
      | some w =>
        obtain ⟨q1, q2⟩ := R.oh i a w q
        rw [q1] at e
        cases e
        exact absurd q2 n) (R.gr.tb t), fun a u n e => by rw [atF a u n e]; exact R.gr.kn a u n e⟩
  exact ⟨H1, g1, ⟨Os, ⟨fun _ _ _ e => e, fun _ _ _ _ e => e, fun a u _ e => le a u e, fun t => tabs_of (fun a u _ e => le a u e) t, R.gr.kn⟩, R.bn.step g1, R.len, R.sl, R.oo, R.of, fun i a u e => Fr.of (inn i a u e), R.oh⟩, le, fun a u n e => e.elim (atF a u n) (at0 a u n)⟩
section
variable {K : PySem.W.Frag} {B H0 F0 H1 F1 F H : Hp} {σ : L2.St} {env : Env} {W : WX}
theorem Off.anti {O : Hp} (g : Mo H0 H1) (h : Off O H1) : Off O H0 := fun a u e => g a (h a u e)
theorem RelS.leave (g : Gr F0 F1 H0 H1) (b : Bn B H0) (R : RelS K B H1 F1 F H σ env) : RelS K B H0 F0 F H σ env := by
  obtain ⟨Os, R⟩ := R
  exact ⟨Os, g.trans R.gr, b, R.len, R.sl, R.oo, R.of, fun i => (R.oz i).anti g.mo, R.oh⟩
theorem Cont.leave {D : Ends} (g : Gr F0 F1 H0 H1) (b : Bn B H0) : ∀ {o : Out}, Cont K B W H0 F0 D o → Cont K B W H1 F1 D o
  | .nx e, h => fun F H σ R => h F H σ (R.leave g b)
  | .bk e, h => fun F H σ R => h F H σ (R.leave g b)
  | .ct e, h => fun F H σ R => h F H σ (R.leave g b)
  | .rt (.im d), h => fun F H v k r => h F H v (g.trans k) r
  | .rt (.nw o), h => fun F H v k r => h F H v (g.trans k) (r.back g.mo)
  | .rt (.lo o), h => h
  | .rt (.br o), h => h
  | .ex C, h => fun F H σ k => h F H σ (g.trans k)
end
section
variable {K : PySem.W.Frag} {B : Hp} {env : Env} {W : WX} {P : Out → Prop}
/-- for over what F keeps -/
theorem sx_for {wi : TI} {g : TG} {js : List Nat} {tb : TS} {ds : List D} (ts : D → List D) (h : EvF K B wi env ds) (hg : ∀ d, d ∈ ds → EvG K g js d (ts d)) (Inv : Nat → Env → Prop) (h0 : Inv 0 env)
    (hs : ∀ i d e, ds[i]? = some d → Inv i e → Sx K B W tb (setD e js (ts d)) (lp (Inv (i + 1)) P)) (hd : ∀ e, Inv ds.length e → P (.nx e)) : Sx K B W (tFor wi g tb) env P := fun H0 F0 F H σ R D q => by
  refine h F H σ R.e _ fun J F' H' G Y gr w hG hY => ?_
  have bn : Bn B H0 := let ⟨_, R⟩ := R; R.bn
  obtain ⟨H1, g1, R1, _⟩ := (R.step gr).enter
  refine for_it w (fun i σ1 H2 => ∃ e F1, Inv i e ∧ RelS K B H1 F' F1 H2 σ1 e) ⟨env, F', h0, R1⟩ ?_ ?_ ?_
  · intro i σ1 H2 _ ⟨e, F1, _, R2⟩
    obtain ⟨_, R2⟩ := R2
    exact hG H2 (R2.gr.fk.trans R2.gr.kn)
  · intro i x σ1 H2 H3 hi ⟨e, F1, i1, R2⟩ y
    have k : ∀ a u, NT u → F' a = some u → F1 a = some u := let ⟨_, R2⟩ := R2; R2.gr.ff
    obtain ⟨F2, d, g2, e2, r2⟩ := hY i H2 x H3 hi y F1 R2.e.kn k
    obtain ⟨vs, rv, kg⟩ := hg d (List.mem_of_getElem? e2) F2 H3 x g2.kn r2
    refine kg σ1 _ ?_
    refine hs i d e e2 i1 H1 F' F2 H3 _ ((R2.step g2).sets rv) _ fun o p => ?_
    cases o with
    | nx e' => exact fun F3 H4 σ3 R3 => ⟨e', F3, p, R3⟩
    | ct e' => exact fun F3 H4 σ3 R3 => ⟨e', F3, p, R3⟩
    | bk e' => exact fun F3 H4 σ3 R3 => q _ (show P (.nx e') from p) F3 H4 σ3 (R3.leave g1 bn)
    | rt r => cases r <;> exact (q _ p).leave g1 bn
    | ex C => exact (q (.ex C) p).leave g1 bn
  · intro σ1 H2 ⟨e, F1, i1, R2⟩
    exact q _ (hd e i1) F1 H2 σ1 (R2.leave g1 bn)

/-! ### walks over data -/
theorem ef_list {tl : TE} {ds : List D} (h : Ev K B tl env (.im (.lst ds))) : EvF K B (iList K tl) env ds := fun F H σ R Q q =>
  h F H σ R _ fun v F' H' g r => by
    obtain ⟨a, xs, rfl, e, r⟩ := Rp.inv_lst r
    refine ⟨a, rfl, ⟨xs, .inl (.inl (g.kn.lst e))⟩, ?_⟩
    have w : Walk (Itl K a) ds.length (fun H => SqL K H a xs) (YAt xs) := by
      rw [← r.length]
      exact walk_list
    refine q _ F' H' _ _ g w (fun H2 k => .inl (.inl (k.lst e))) fun i H1 x H2 hi y F1 k ff => ?_
    obtain ⟨rfl, hx⟩ := y
    obtain ⟨d, hd, rd⟩ := r.getV hx
    exact ⟨F1, d, Gr.refl k, hd, rd.mono (.of ff)⟩
theorem ef_tup {tl : TE} {ds : List D} (h : Ev K B tl env (.im (.tup ds))) : EvF K B (iTup K tl) env ds := fun F H σ R Q q =>
  h F H σ R _ fun v F' H' g r => by
    obtain ⟨a, xs, rfl, e, r⟩ := Rp.inv_tup r
    refine ⟨a, rfl, ⟨xs, g.kn.sqT e⟩, ?_⟩
    have w : Walk (Itt K a) ds.length (fun H => SqT K H a xs) (YAt xs) := by
      rw [← r.length]
      exact walk_tup
    refine q _ F' H' _ _ g w (fun H2 k => k.sqT e) fun i H1 x H2 hi y F1 k ff => ?_
    obtain ⟨rfl, hx⟩ := y
    obtain ⟨d, hd, rd⟩ := r.getV hx
    exact ⟨F1, d, Gr.refl k, hd, rd.mono (.of ff)⟩
/-- a list that is only looked at -/
theorem ei_list {tl : TE} {ds : List D} (h : Ev K B tl env (.ob (.lst ds))) : EvI K B (iList K tl) env ds := fun F H σ R Q q =>
  h F H σ R _ fun v F' H' g r => by
    obtain ⟨a, xs, rfl, e, r⟩ := r
    refine ⟨a, rfl, ⟨xs, .inl (.inl e)⟩, ?_⟩
    have w : Walk (Itl K a) ds.length (fun H => SqL K H a xs) (YAt xs) := by
      rw [← r.length]
      exact walk_list
    refine q _ F' H' _ _ g w (fun H2 _ k => .inl (.inl (k _ _ nt_lst e))) fun i H1 x H2 hi y F1 k ff => ?_
    obtain ⟨rfl, hx⟩ := y
    obtain ⟨d, hd, rd⟩ := r.getV hx
    exact ⟨F1, d, Gr.refl k, hd, rd.mono (.of ff)⟩
theorem ef_range1 {ta : TA} {n : Nat} {j : Int} (h : EvA K B ta env [.im (.int j)]) (h1 : -(2 ^ 62) ≤ j) (h2 : j < 2 ^ 62) (hn : j.toNat = n) : EvF K B (iRng1 ta) env ((List.range n).map fun i : Nat => .int i) := fun F H σ R Q q =>
  h F H σ R _ fun vs F' H' g r => by
    cases r with
    | cons r1 r =>
      cases r
      have r1 : Rp K F' _ (.int j) := r1
      cases r1
      refine ⟨j, rfl, h1, h2, ?_⟩
      rw [hn]
      have w : Walk (Itr 0 n) ((List.range n).map fun i : Nat => D.int i).length (fun _ => True) (YFn fun i => .int (0 + i)) := by
        rw [List.length_map, List.length_range]
        exact walk_range
      refine q _ F' H' _ _ g w (fun H2 k => trivial) fun i H1 x H2 hi y F1 k ff => ?_
      obtain ⟨rfl, rfl⟩ := y
      rw [List.length_map, List.length_range] at hi
      refine ⟨F1, .int i, Gr.refl k, by simp [hi], ?_⟩
      show Rp K F1 (V.int (0 + (i : Int))) (D.int i)
      rw [Int.zero_add]
      exact .int _
theorem ef_range2 {ta : TA} {n : Nat} {i0 j : Int} (h : EvA K B ta env [.im (.int i0), .im (.int j)]) (hb : -(2 ^ 62) ≤ i0 ∧ i0 < 2 ^ 62 ∧ -(2 ^ 62) ≤ j ∧ j < 2 ^ 62) (hn : (j - i0).toNat = n) : EvF K B (iRng2 ta) env ((List.range n).map fun i : Nat => .int (i0 + i)) := fun F H σ R Q q =>
  h F H σ R _ fun vs F' H' g r => by
    cases r with
    | cons r1 r =>
      cases r with
      | cons r2 r =>
        cases r
        have r1 : Rp K F' _ (.int i0) := r1
        have r2 : Rp K F' _ (.int j) := r2
        cases r1
        cases r2
        refine ⟨i0, j, rfl, hb, ?_⟩
        rw [hn]
        have w : Walk (Itr i0 n) ((List.range n).map fun i : Nat => D.int (i0 + i)).length (fun _ => True) (YFn fun i => .int (i0 + i)) := by
          rw [List.length_map, List.length_range]
          exact walk_range
        refine q _ F' H' _ _ g w (fun H2 k => trivial) fun i H1 x H2 hi y F1 k ff => ?_
        obtain ⟨rfl, rfl⟩ := y
        rw [List.length_map, List.length_range] at hi
        exact ⟨F1, .int (i0 + i), Gr.refl k, by simp [hi], .int _⟩
theorem ef_range3 {ta : TA} {n : Nat} {i0 j c : Int} (h : EvA K B ta env [.im (.int i0), .im (.int j), .im (.int c)]) (hr : RgC i0 j c n) : EvF K B (iRng3 ta) env ((List.range n).map fun i : Nat => .int (i0 + (i : Nat) * c)) := fun F H σ R Q q =>
  h F H σ R _ fun vs F' H' g r => by
    cases r with
    | cons r1 r =>
      cases r with
      | cons r2 r =>
        cases r with
        | cons r3 r =>
          cases r
          have r1 : Rp K F' _ (.int i0) := r1
          have r2 : Rp K F' _ (.int j) := r2
          have r3 : Rp K F' _ (.int c) := r3
          cases r1
          cases r2
          cases r3
          refine ⟨i0, j, c, n, rfl, hr, ?_⟩
          have w : Walk (Itc i0 c n) ((List.range n).map fun i : Nat => D.int (i0 + (i : Nat) * c)).length (fun _ => True) (YFn fun i => .int (i0 + (i : Nat) * c)) := by
            rw [List.length_map, List.length_range]
            exact walk_rangeC
          refine q _ F' H' _ _ g w (fun H2 k => trivial) fun i H1 x H2 hi y F1 k ff => ?_
          obtain ⟨rfl, rfl⟩ := y
          rw [List.length_map, List.length_range] at hi
          exact ⟨F1, .int (i0 + (i : Nat) * c), Gr.refl k, by simp [hi], .int _⟩
/-- the signs of a text -/
def sign (c : Nat) : Str := ⟨#[c]⟩
theorem ef_str {te : TE} {s : Str} (h : Ev K B te env (.im (.str s))) : EvF K B (iStr te) env (s.cps.toList.map fun c => .str (sign c)) := fun F H σ R Q q =>
  h F H σ R _ fun v F' H' g r => by
    have r : Rp K F' v (.str s) := r
    cases r
    refine ⟨s, rfl, ?_⟩
    have w : Walk (Its s) (s.cps.toList.map fun c => D.str (sign c)).length (fun _ => True) (fun i H v H' => H' = H ∧ ∃ c, s.cps[i]? = some c ∧ v = .str ⟨#[c]⟩) := by
      rw [List.length_map, Array.length_toList]
      exact walk_str
    refine q _ F' H' _ _ g w (fun H2 k => trivial) fun i H1 x H2 hi y F1 k ff => ?_
    obtain ⟨rfl, c, hc, rfl⟩ := y
    exact ⟨F1, .str (sign c), Gr.refl k, by rw [List.getElem?_map, Array.getElem?_toList, hc] <;> rfl, .str _⟩
/-- enumerate(a frozen list) -/
theorem ef_enum {ta : TA} {ds : List D} (h : EvA K B ta env [.im (.lst ds)]) : EvF K B (iEnum K ta) env (ds.mapIdx fun i d => .tup [.int (i : Nat), d]) := fun F H σ R Q q =>
  h F H σ R _ fun vs F' H' g r => by
    cases r with
    | cons r1 r =>
      cases r
      obtain ⟨a, xs, rfl, e, r⟩ := Rp.inv_lst r1
      · refine ⟨a, xs, rfl, .inl (.inl (g.kn.lst e)), ?_⟩
        have w : Walk (Ite K a) (ds.mapIdx fun i d => D.tup [.int (i : Nat), d]).length (fun H => SqL K H a xs) (YPair (fun i => some (.int (i : Nat))) (fun i => xs[i]?)) := by
          rw [List.length_mapIdx, ← r.length]
          exact walk_enum
        refine q _ F' H' _ _ g w (fun H2 k => .inl (.inl (k.lst e))) fun i H1 x H2 hi y F1 k ff => ?_
        obtain ⟨T, x1, y1, rfl, hT, rfl, e1, e2⟩ := y
        cases e1
        obtain ⟨d, hd, rd⟩ := r.getV e2
        refine ⟨_, .tup [.int (i : Nat), d], Gr.newF k hT, by rw [List.getElem?_mapIdx, hd] <;> rfl, .tup (.inl (.inl upd_same)) (.cons (.int _) (.cons (rd.mono ?_) .nil))⟩
        exact (Kn.of ff).trans (Gr.newF k hT).fk

/-! ### comprehensions -/
def cell (D : Addr) (o : HO) : Hp := upd (fun _ => none) D o
theorem of_cell {D a : Addr} {o u : HO} (h : cell D o a = some u) : a = D ∧ u = o := by
  unfold cell at h
  by_cases z : a = D
  · rw [z, upd_same] at h
    exact ⟨z, (Option.some.inj h).symm⟩
  · rw [upd_ne z] at h
    cases h
def wipeE (e : Env) : List Nat → Env
  | [] => e
  | v :: vs => (wipeE e vs).set v .un
theorem wipeE_length (e : Env) : ∀ vs, (wipeE e vs).length = e.length
  | [] => rfl
  | v :: vs => by unfold wipeE; rw [List.length_set, wipeE_length e vs]
theorem RelE.wipe {F H : Hp} {σ : L2.St} {env : Env} (R : RelE K B F H σ env) : ∀ vs : List Nat, RelE K B F H (L2.wipe σ vs) (wipeE env vs)
  | [] => R
  | v :: vs => by
    have R' := RelE.wipe R vs
    refine ⟨R.kn, R.bn, by rw [wipe_length, wipeE_length]; exact R.len, fun j s e => ?_⟩
    unfold wipeE at e
    unfold L2.wipe
    by_cases q : j = v
    · subst q
      obtain ⟨rfl, _⟩ := get_set_self e
      trivial
    · rw [List.getElem?_set_ne (Ne.symm q)] at e
      rw [List.getElem?_set_ne (Ne.symm q)]
      exact R'.sl j s e
theorem wipe_set {σ : L2.St} {v : Option V} {j : Nat} : ∀ {vs : List Nat}, j ∈ vs → L2.wipe (σ.set j v) vs = L2.wipe σ vs
  | w :: vs, h => by
    unfold L2.wipe
    by_cases q : j = w
    · subst q
      by_cases p : j ∈ vs
      · rw [wipe_set p]
      · have e : ∀ us : List Nat, j ∉ us → L2.wipe (σ.set j v) us = (L2.wipe σ us).set j v := by
          intro us
          induction us with
          | nil => intro _; rfl
          | cons u us ih =>
            intro hu
            have h1 : j ≠ u := fun z => hu (by rw [z]; exact List.mem_cons_self)
            unfold L2.wipe
            rw [ih fun z => hu (List.mem_cons_of_mem _ z), List.set_comm _ _ h1]
        rw [e vs p, List.set_set]
    · rw [wipe_set (List.mem_of_ne_of_mem q h)]
theorem wipe_setS : ∀ {js : List Nat} {us : List V} {σ : L2.St} {vs : List Nat}, (∀ j ∈ js, j ∈ vs) → L2.wipe (setS σ js us) vs = L2.wipe σ vs
  | [], _, _, _, _ => rfl
  | _ :: _, [], _, _, _ => rfl
  | j :: js, u :: us, σ, vs, h => by
    show L2.wipe (setS (σ.set j (some u)) js us) vs = _
    rw [wipe_setS fun k hk => h k (List.mem_cons_of_mem _ hk), wipe_set (h j List.mem_cons_self)]
theorem wipe_wipe {σ : L2.St} (vs : List Nat) : L2.wipe (L2.wipe σ vs) vs = L2.wipe σ vs := by
  have key : ∀ us : List Nat, (∀ u ∈ us, u ∈ vs) → L2.wipe (L2.wipe σ us) vs = L2.wipe σ vs := by
    intro us
    induction us with
    | nil => intro _; rfl
    | cons u us ih =>
      intro h
      show L2.wipe ((L2.wipe σ us).set u none) vs = _
      rw [wipe_set (h u List.mem_cons_self), ih fun k hk => h k (List.mem_cons_of_mem _ hk)]
  exact key vs fun _ h => h
/-- the reading of a comprehension at a state -/
theorem lc_at {α : Type} {F H : Hp} {σ : L2.St} {wi : TI} {g : TG} {tt : TT} {te : TE} {vs js : List Nat} {xs : List α} {enc : α → D} (ts : α → List D) (p : α → Bool) (f : α → D) (R : RelE K B F H σ env) (hi : IterI K wi σ F H (xs.map enc))
    (hg : ∀ x, x ∈ xs → EvG K g js (enc x) (ts x)) (hj : ∀ j ∈ js, j ∈ vs) (ht : ∀ x, x ∈ xs → EvT K B tt (setD (wipeE env vs) js (ts x)) (p x)) (he : ∀ x, x ∈ xs → p x = true → Ev K B te (setD (wipeE env vs) js (ts x)) (.im (f x)))
    (hl : xs.length ≤ sizeLine) {Q : VK} (q : ∀ v F' H', Gr F F' H H' → VlOk K B H F' H' v (.nw (oM (.lst ((xs.filter p).map f)))) → Q v H') : tLc wi g tt te vs σ H Q := by
  refine hi _ fun J F' H' G Y gr w hG hY => ?_
  intro D hD
  have g0 : Gr F' F' H' (upd H' D (.lst [])) := Gr.new gr.kn hD
  have fD : Fr F' D := gr.kn.free hD
  refine lc_it w (fun i Hc => ∃ (Fi : Hp) (acc : List V), Gr F' Fi H' Hc ∧ Fr Fi D ∧ Hc D = some (.lst acc) ∧ acc.length ≤ i ∧ RpL K Fi acc (((xs.take i).filter p).map f)) ⟨F', [], g0, fD, upd_same, Nat.le_refl _, .nil⟩ ?_ ?_ ?_
  · intro i Hc _ ⟨Fi, acc, gi, _⟩
    exact hG Hc (gi.fk.trans gi.kn) gi.hh
  · intro i x Hc Hd hin ⟨Fi, acc, gi, nD, hDc, hacc, racc⟩ y
    obtain ⟨F2, d, g2, e2, r2⟩ := hY i Hc x Hd hin y Fi gi.kn gi.ff
    rw [List.getElem?_map] at e2
    obtain ⟨z, hz, rfl⟩ := Option.map_eq_some_iff.mp e2
    have hzm := List.mem_of_getElem? hz
    obtain ⟨us, ru, kg⟩ := hg z hzm F2 Hd x g2.kn r2
    refine kg _ _ ⟨by rw [wipe_setS hj, wipe_wipe], ?_⟩
    have R2 : RelE K B F2 Hd (setS (L2.wipe σ vs) js us) (setD (wipeE env vs) js (ts z)) := RelE.sets ((R.step ((gr.trans gi).trans g2)).wipe vs) ru
    refine ht z hzm F2 Hd _ R2 _ fun F3 H3 g3 => ?_
    have g13 : Gr Fi F3 Hc H3 := g2.trans g3
    have hz2 : xs.take (i + 1) = xs.take i ++ [z] := by rw [List.take_succ, hz] <;> rfl
    cases hp : p z with
    | false =>
      rw [if_neg Bool.false_ne_true]
      refine ⟨F3, acc, gi.trans g13, g13.fr D _ nt_lst hDc nD, g13.hh D _ nt_lst hDc, by omega, ?_⟩
      rw [hz2, List.filter_append, List.filter_cons, if_neg (by rw [hp]; exact Bool.false_ne_true)]
      simpa using racc.mono g13.fk
    | true =>
      rw [if_pos rfl]
      refine he z hzm hp F3 H3 _ (R2.step g3) _ fun yv F4 H4 g4 ry => ?_
      have g14 : Gr Fi F4 Hc H4 := g13.trans g4
      have n4 : Fr F4 D := g14.fr D _ nt_lst hDc nD
      refine ⟨acc, g14.hh D _ nt_lst hDc, ?_, F4, acc ++ [yv], ?_, n4, upd_same, ?_, ?_⟩
      · have : i < (xs.map enc).length := hin
        rw [List.length_map] at this
        omega
      · have g5 := gi.trans g14
        refine ⟨g5.ff, g5.fr, fun a u n e => ?_, fun t => tabs_of (fun a u n e => ?_) (g5.tb t), fun a u n e => ?_⟩
        · rw [upd_ne (ne_of_none e hD)]
          exact g5.hh a u n e
        · rw [upd_ne fun z => ?_]
          · exact e
          · rw [z, g14.hh D _ nt_lst hDc] at e
            cases e
            exact n nx_lst
        · rw [upd_ne (n4.ne n e)]
          exact g5.kn a u n e
      · rw [List.length_append, List.length_singleton]
        omega
      · rw [hz2, List.filter_append, List.filter_cons, if_pos hp, List.filter_nil, List.map_append]
        exact (racc.mono g14.fk).app (.cons ry .nil)
  · intro Hc ⟨Fi, acc, gi, nD, hDc, hacc, racc⟩
    rw [List.length_map, List.take_of_length_le (Nat.le_refl _)] at racc
    refine q _ Fi Hc (gr.trans gi) ⟨cell D (.lst acc), fun a u e => ?_, fun a u e => ?_, fun a u e => ?_, D, acc, rfl, upd_same, racc⟩
    · obtain ⟨rfl, rfl⟩ := of_cell e
      exact ⟨hDc, nx_lst⟩
    · obtain ⟨rfl, rfl⟩ := of_cell e
      exact nD
    · obtain ⟨rfl, rfl⟩ := of_cell e
      exact gr.mo _ (Fr.of hD)
theorem ev_lc {α : Type} {wi : TI} {g : TG} {tt : TT} {te : TE} {vs js : List Nat} {xs : List α} {enc : α → D} (ts : α → List D) (p : α → Bool) (f : α → D) (hi : EvI K B wi env (xs.map enc))
    (hg : ∀ x, x ∈ xs → EvG K g js (enc x) (ts x)) (hj : ∀ j ∈ js, j ∈ vs) (ht : ∀ x, x ∈ xs → EvT K B tt (setD (wipeE env vs) js (ts x)) (p x)) (he : ∀ x, x ∈ xs → p x = true → Ev K B te (setD (wipeE env vs) js (ts x)) (.im (f x)))
    (hl : xs.length ≤ sizeLine) : Ev K B (tLc wi g tt te vs) env (.nw (oM (.lst ((xs.filter p).map f)))) := fun F H σ R Q q => lc_at ts p f R (hi F H σ R) hg hj ht he hl q
theorem et_yes : EvT K B tYes env true := fun F H σ R Q q => q F H (Gr.refl R.kn)
/-- .. without a test -/
theorem ev_lcA {α : Type} {wi : TI} {g : TG} {te : TE} {vs js : List Nat} {xs : List α} {enc : α → D} (ts : α → List D) (f : α → D) (hi : EvI K B wi env (xs.map enc))
    (hg : ∀ x, x ∈ xs → EvG K g js (enc x) (ts x)) (hj : ∀ j ∈ js, j ∈ vs) (he : ∀ x, x ∈ xs → Ev K B te (setD (wipeE env vs) js (ts x)) (.im (f x)))
    (hl : xs.length ≤ sizeLine) : Ev K B (tLc wi g tYes te vs) env (.nw (oM (.lst (xs.map f)))) := by
  have h := ev_lc ts (fun _ => true) f hi hg hj (fun x _ => et_yes) (fun x hx _ => he x hx) hl
  rw [List.filter_eq_self.mpr (fun _ _ => rfl)] at h
  exact h
/-- .. over one name, with a test -/
theorem ev_lc1 {α : Type} {wi : TI} {tt : TT} {te : TE} {i : Nat} {xs : List α} {enc : α → D} (p : α → Bool) (f : α → D) (hi : EvI K B wi env (xs.map enc))
    (ht : ∀ x, x ∈ xs → EvT K B tt ((wipeE env [i]).set i (.im (enc x))) (p x)) (he : ∀ x, x ∈ xs → p x = true → Ev K B te ((wipeE env [i]).set i (.im (enc x))) (.im (f x)))
    (hl : xs.length ≤ sizeLine) : Ev K B (tLc wi (gName i) tt te [i]) env (.nw (oM (.lst ((xs.filter p).map f)))) :=
  ev_lc (js := [i]) (fun x => [enc x]) p f hi (fun _ _ => eg_name) (fun _ h => h) ht he hl
theorem ev_lcA1 {α : Type} {wi : TI} {te : TE} {i : Nat} {xs : List α} {enc : α → D} (f : α → D) (hi : EvI K B wi env (xs.map enc))
    (he : ∀ x, x ∈ xs → Ev K B te ((wipeE env [i]).set i (.im (enc x))) (.im (f x)))
    (hl : xs.length ≤ sizeLine) : Ev K B (tLc wi (gName i) tYes te [i]) env (.nw (oM (.lst (xs.map f)))) :=
  ev_lcA (js := [i]) (fun x => [enc x]) f hi (fun _ _ => eg_name) (fun _ h => h) he hl
end
end NM
/-! The operations upon data. -/
namespace NM
open PySem PySem.Spec PyProof.Rows L2
variable [Tbs]
section
variable {K : PySem.W.Frag} {B : Hp} {env : Env} {ta tb tc te : TE} {a b c r : Vl} {d e : D}
/-! ### whole numbers -/
theorem ev_int2 {g : Int → Int → V} {i j : Int} (ha : Ev K B ta env (.im (.int i))) (hb : Ev K B tb env (.im (.int j))) (hr : ∀ F, Rp K F (g i j) d) : Ev K B (tOp (rI0 g) ta tb) env (.im d) :=
  ev_op ha hb fun B F H x y k ⟨_, hx⟩ ⟨_, hy⟩ Q q => ⟨i, j, Rp.inv_int hx, Rp.inv_int hy, q _ F H (Gr.refl k) (hr F)⟩
theorem ev_int2c {C : Int → Int → Prop} {g : Int → Int → V} {i j : Int} (ha : Ev K B ta env (.im (.int i))) (hb : Ev K B tb env (.im (.int j))) (hc : C i j) (hr : ∀ F, Rp K F (g i j) d) : Ev K B (tOp (rI C g) ta tb) env (.im d) :=
  ev_op ha hb fun B F H x y k ⟨_, hx⟩ ⟨_, hy⟩ Q q => ⟨i, j, Rp.inv_int hx, Rp.inv_int hy, hc, q _ F H (Gr.refl k) (hr F)⟩
abbrev rAddI : R2 := rI0 fun i j => .int (i + j)
abbrev rSubI : R2 := rI0 fun i j => .int (i - j)
abbrev rMulI : R2 := rI CMul fun i j => .int (i * j)
abbrev rMulW : R2 := rI CMulW fun i j => .int (i * j)
abbrev rDivI : R2 := rI CDiv fun i j => .int (i / j)
abbrev rDivW : R2 := rI CDivW fun i j => .int (i / j)
abbrev rModI : R2 := rI (fun _ j => 0 < j) fun i j => .int (i % j)
abbrev rPowI : R2 := rI CPow fun i j => .int (i ^ j.toNat)
abbrev rLtI : R2 := rI0 fun i j => .bl (decide (i < j))
abbrev rLeI : R2 := rI0 fun i j => .bl (decide (i ≤ j))
abbrev rGtI : R2 := rI0 fun i j => .bl (decide (j < i))
abbrev rGeI : R2 := rI0 fun i j => .bl (decide (j ≤ i))
theorem ev_add {i j : Int} (ha : Ev K B ta env (.im (.int i))) (hb : Ev K B tb env (.im (.int j))) : Ev K B (tOp rAddI ta tb) env (.im (.int (i + j))) := ev_int2 ha hb fun _ => .int _
theorem ev_sub {i j : Int} (ha : Ev K B ta env (.im (.int i))) (hb : Ev K B tb env (.im (.int j))) : Ev K B (tOp rSubI ta tb) env (.im (.int (i - j))) := ev_int2 ha hb fun _ => .int _
theorem ev_mul {i j : Int} (ha : Ev K B ta env (.im (.int i))) (hb : Ev K B tb env (.im (.int j))) (hc : CMul i j) : Ev K B (tOp rMulI ta tb) env (.im (.int (i * j))) := ev_int2c ha hb hc fun _ => .int _
theorem ev_mulW {i j : Int} (ha : Ev K B ta env (.im (.int i))) (hb : Ev K B tb env (.im (.int j))) (hc : CMulW i j) : Ev K B (tOp rMulW ta tb) env (.im (.int (i * j))) := ev_int2c ha hb hc fun _ => .int _
theorem ev_div {i j : Int} (ha : Ev K B ta env (.im (.int i))) (hb : Ev K B tb env (.im (.int j))) (hc : CDiv i j) : Ev K B (tOp rDivI ta tb) env (.im (.int (i / j))) := ev_int2c ha hb hc fun _ => .int _
theorem ev_divW {i j : Int} (ha : Ev K B ta env (.im (.int i))) (hb : Ev K B tb env (.im (.int j))) (hc : CDivW i j) : Ev K B (tOp rDivW ta tb) env (.im (.int (i / j))) := ev_int2c ha hb hc fun _ => .int _
theorem ev_mod {i j : Int} (ha : Ev K B ta env (.im (.int i))) (hb : Ev K B tb env (.im (.int j))) (hc : 0 < j) : Ev K B (tOp rModI ta tb) env (.im (.int (i % j))) := ev_int2c ha hb hc fun _ => .int _
theorem ev_pow {i j : Int} (ha : Ev K B ta env (.im (.int i))) (hb : Ev K B tb env (.im (.int j))) (hc : CPow i j) : Ev K B (tOp rPowI ta tb) env (.im (.int (i ^ j.toNat))) := ev_int2c ha hb hc fun _ => .int _
theorem ev_lt {i j : Int} (ha : Ev K B ta env (.im (.int i))) (hb : Ev K B tb env (.im (.int j))) : Ev K B (tOp rLtI ta tb) env (.im (.bl (decide (i < j)))) := ev_int2 ha hb fun _ => .bl _
theorem ev_le {i j : Int} (ha : Ev K B ta env (.im (.int i))) (hb : Ev K B tb env (.im (.int j))) : Ev K B (tOp rLeI ta tb) env (.im (.bl (decide (i ≤ j)))) := ev_int2 ha hb fun _ => .bl _
theorem ev_gt {i j : Int} (ha : Ev K B ta env (.im (.int i))) (hb : Ev K B tb env (.im (.int j))) : Ev K B (tOp rGtI ta tb) env (.im (.bl (decide (j < i)))) := ev_int2 ha hb fun _ => .bl _
theorem ev_ge {i j : Int} (ha : Ev K B ta env (.im (.int i))) (hb : Ev K B tb env (.im (.int j))) : Ev K B (tOp rGeI ta tb) env (.im (.bl (decide (j ≤ i)))) := ev_int2 ha hb fun _ => .bl _
/-- lo <= x <= hi -/
theorem ev_chain {i j k : Int} (ha : Ev K B ta env (.im (.int i))) (hb : Ev K B tb env (.im (.int j))) (hc : i ≤ j → Ev K B tc env (.im (.int k))) : Ev K B (tChain rLeI rLeI ta tb tc) env (.im (.bl (decide (i ≤ j) && decide (j ≤ k)))) := fun F H σ R Q q =>
  ha F H σ R _ fun x F1 H1 g1 x1 => hb F1 H1 σ (R.step g1) _ fun y F2 H2 g2 y2 => by
    refine ⟨i, j, Rp.inv_int x1, Rp.inv_int y2, decide (i ≤ j), rfl, ?_⟩
    by_cases h : i ≤ j
    · rw [decide_eq_true h, if_pos rfl]
      refine hc h F2 H2 σ ((R.step g1).step g2) _ fun z F3 H3 g3 z3 => ⟨j, k, Rp.inv_int y2, Rp.inv_int z3, q _ F3 H3 ((g1.trans g2).trans g3) ?_⟩
      rw [decide_eq_true h, Bool.true_and]
      exact Rp.bl _
    · rw [decide_eq_false h, if_neg Bool.false_ne_true]
      refine q _ F2 H2 (g1.trans g2) ?_
      rw [decide_eq_false h, Bool.false_and]
      exact Rp.bl _
def tTestC (t : TE) : TT := tTest t
/-! ### == of numbers, of texts, is None -/
theorem ev_eqI {i j : Int} (ha : Ev K B ta env (.im (.int i))) (hb : Ev K B tb env (.im (.int j))) : Ev K B (tOp rEq ta tb) env (.im (.bl (decide (i = j)))) :=
  ev_op ha hb fun B F H x y k ⟨_, hx⟩ ⟨_, hy⟩ Q q => by
    obtain rfl := Rp.inv_int hx
    obtain rfl := Rp.inv_int hy
    refine ⟨rfl, q _ F H (Gr.refl k) ?_⟩
    have e : decide (V.int i = V.int j) = decide (i = j) := by
      by_cases z : i = j
      · subst z; simp
      · rw [decide_eq_false z, decide_eq_false fun w => z (V.int.inj w)]
    rw [e]
    exact Rp.bl _
theorem ev_neI {i j : Int} (ha : Ev K B ta env (.im (.int i))) (hb : Ev K B tb env (.im (.int j))) : Ev K B (tOp rNe ta tb) env (.im (.bl (!decide (i = j)))) :=
  ev_op ha hb fun B F H x y k ⟨_, hx⟩ ⟨_, hy⟩ Q q => by
    obtain rfl := Rp.inv_int hx
    obtain rfl := Rp.inv_int hy
    refine ⟨rfl, q _ F H (Gr.refl k) ?_⟩
    have e : decide (V.int i = V.int j) = decide (i = j) := by
      by_cases z : i = j
      · subst z; simp
      · rw [decide_eq_false z, decide_eq_false fun w => z (V.int.inj w)]
    rw [e]
    exact Rp.bl _
theorem dec_strV {i j : Str} : decide (V.str i = V.str j) = decide (i = j) := by
  by_cases z : i = j
  · subst z; simp
  · rw [decide_eq_false z, decide_eq_false fun w => z (V.str.inj w)]
theorem ev_eqS {i j : Str} (ha : Ev K B ta env (.im (.str i))) (hb : Ev K B tb env (.im (.str j))) : Ev K B (tOp rEq ta tb) env (.im (.bl (decide (i = j)))) :=
  ev_op ha hb fun B F H x y k ⟨_, hx⟩ ⟨_, hy⟩ Q q => by
    obtain rfl := Rp.inv_str hx
    obtain rfl := Rp.inv_str hy
    refine ⟨rfl, q _ F H (Gr.refl k) ?_⟩
    rw [dec_strV]
    exact Rp.bl _
theorem ev_neS {i j : Str} (ha : Ev K B ta env (.im (.str i))) (hb : Ev K B tb env (.im (.str j))) : Ev K B (tOp rNe ta tb) env (.im (.bl (!decide (i = j)))) :=
  ev_op ha hb fun B F H x y k ⟨_, hx⟩ ⟨_, hy⟩ Q q => by
    obtain rfl := Rp.inv_str hx
    obtain rfl := Rp.inv_str hy
    refine ⟨rfl, q _ F H (Gr.refl k) ?_⟩
    rw [dec_strV]
    exact Rp.bl _
abbrev rIsN : R2 := fun x y H Q => y = .non ∧ Q (.bl (decide (x = .non))) H
abbrev rNotN : R2 := fun x y H Q => y = .non ∧ Q (.bl (!decide (x = .non))) H
def isNon : D → Bool
  | .non => true
  | _ => false
theorem rp_non {F : Hp} {v : V} (h : Rp K F v d) : decide (v = .non) = isNon d := by
  cases h <;> first | rfl | exact decide_eq_false (fun z => nomatch z)
theorem ev_isN (ha : Ev K B ta env (.im d)) : Ev K B (tOp rIsN ta (tC .non)) env (.im (.bl (isNon d))) :=
  ev_op ha ev_non fun B F H x y k ⟨_, hx⟩ ⟨_, hy⟩ Q q => ⟨Rp.inv_non hy, q _ F H (Gr.refl k) (by rw [rp_non hx]; exact Rp.bl _)⟩
theorem ev_notN (ha : Ev K B ta env (.im d)) : Ev K B (tOp rNotN ta (tC .non)) env (.im (.bl (!isNon d))) :=
  ev_op ha ev_non fun B F H x y k ⟨_, hx⟩ ⟨_, hy⟩ Q q => ⟨Rp.inv_non hy, q _ F H (Gr.refl k) (by rw [rp_non hx]; exact Rp.bl _)⟩

/-! ### == of data -/
mutual
/-- data as the library has it (dicts are none of it) -/
def py : D → PyData
  | .non => .none
  | .bl b => .bool b
  | .int i => .int i
  | .str s => .str s
  | .tup ds => .tuple (pyL ds)
  | .lst ds => .list (pyL ds)
  | .dct _ => .none
def pyL : List D → List PyData
  | [] => []
  | d :: ds => py d :: pyL ds
end
/-- data of depth n at most, of numbers, texts, None -/
def Okd : Nat → D → Prop
  | _, .non => True
  | _, .int _ => True
  | _, .str s => PyData.strOk s = true
  | n + 1, .tup ds => ∀ d ∈ ds, Okd n d
  | n + 1, .lst ds => ∀ d ∈ ds, Okd n d
  | _, _ => False
theorem okd_le : ∀ {n m : Nat} {d : D}, n ≤ m → Okd n d → Okd m d
  | 0, 0, _, _, h => h
  | 0, m + 1, .non, _, h => trivial
  | 0, m + 1, .int _, _, h => trivial
  | 0, m + 1, .str _, _, h => h
  | 0, m + 1, .tup _, _, h => h.elim
  | 0, m + 1, .lst _, _, h => h.elim
  | 0, m + 1, .bl _, _, h => h.elim
  | 0, m + 1, .dct _, _, h => h.elim
  | n + 1, 0, _, l, _ => absurd l (Nat.not_succ_le_zero _)
  | n + 1, m + 1, .non, _, h => trivial
  | n + 1, m + 1, .int _, _, h => trivial
  | n + 1, m + 1, .str _, _, h => h
  | n + 1, m + 1, .tup ds, l, h => fun d hd => okd_le (Nat.le_of_succ_le_succ l) (h d hd)
  | n + 1, m + 1, .lst ds, l, h => fun d hd => okd_le (Nat.le_of_succ_le_succ l) (h d hd)
  | n + 1, m + 1, .bl _, _, h => h.elim
  | n + 1, m + 1, .dct _, _, h => h.elim
theorem okd_py : ∀ {n : Nat} {d : D}, Okd n d → (py d).canLay0 = true ∧ (py d).depth ≤ n
  | n, .non, _ => ⟨by simp [py, PyData.canLay0], by simp [py, PyData.depth]⟩
  | n, .int _, _ => ⟨by simp [py, PyData.canLay0], by simp [py, PyData.depth]⟩
  | n, .str s, h => ⟨by cases n <;> simpa [py, PyData.canLay0, Okd] using h, by simp [py, PyData.depth]⟩
  | n + 1, .tup ds, h => by
    have key : ∀ es : List D, (∀ d ∈ es, Okd n d) → PyData.canLayAll0 (pyL es) = true ∧ PyData.depthAll (pyL es) ≤ n := by
      intro es
      induction es with
      | nil => intro _; exact ⟨rfl, Nat.zero_le _⟩
      | cons e es ih =>
        intro hh
        obtain ⟨a, b⟩ := okd_py (hh e List.mem_cons_self)
        obtain ⟨c, d⟩ := ih fun x hx => hh x (List.mem_cons_of_mem _ hx)
        exact ⟨by simp [pyL, PyData.canLayAll0, a, c], by simp only [pyL, PyData.depthAll]; omega⟩
    obtain ⟨a, b⟩ := key ds h
    exact ⟨by simpa [py, PyData.canLay0] using a, by simp only [py, PyData.depth]; omega⟩
  | n + 1, .lst ds, h => by
    have key : ∀ es : List D, (∀ d ∈ es, Okd n d) → PyData.canLayAll0 (pyL es) = true ∧ PyData.depthAll (pyL es) ≤ n := by
      intro es
      induction es with
      | nil => intro _; exact ⟨rfl, Nat.zero_le _⟩
      | cons e es ih =>
        intro hh
        obtain ⟨a, b⟩ := okd_py (hh e List.mem_cons_self)
        obtain ⟨c, d⟩ := ih fun x hx => hh x (List.mem_cons_of_mem _ hx)
        exact ⟨by simp [pyL, PyData.canLayAll0, a, c], by simp only [pyL, PyData.depthAll]; omega⟩
    obtain ⟨a, b⟩ := key ds h
    exact ⟨by simpa [py, PyData.canLay0] using a, by simp only [py, PyData.depth]; omega⟩
  | 0, .tup _, h => h.elim
  | 0, .lst _, h => h.elim
  | 0, .bl _, h => h.elim
  | 0, .dct _, h => h.elim
  | n + 1, .bl _, h => h.elim
  | n + 1, .dct _, h => h.elim
/-- whether they are the same -/
noncomputable def deq (d e : D) : Bool := @decide (d = e) (Classical.propDecidable _)
theorem deq_self (d : D) : deq d d = true := @decide_eq_true _ (Classical.propDecidable _) rfl
theorem deq_ne {d e : D} (h : d ≠ e) : deq d e = false := @decide_eq_false _ (Classical.propDecidable _) h
theorem deq_iff {d e : D} : deq d e = true ↔ d = e := @decide_eq_true_iff _ (Classical.propDecidable _)
theorem deq_of {d e : D} {p : Prop} [Decidable p] (h : d = e ↔ p) : deq d e = decide p := by
  by_cases q : p
  · rw [h.mpr q, deq_self, decide_eq_true q]
  · rw [deq_ne fun z => q (h.mp z), decide_eq_false q]
theorem eqv_okd : ∀ {n m : Nat} {d e : D}, Okd n d → Okd m e → PyData.eqv (py d) (py e) = deq d e := by
  intro n
  induction n with
  | zero =>
    intro m d e hd he
    cases d <;> cases e <;> first
      | exact hd.elim
      | (cases m <;> exact he.elim)
      | (simp only [py, PyData.eqv]; first
          | exact (deq_self _).symm
          | exact Eq.symm (deq_ne (by intro z; cases z))
          | (rw [deq_of (p := _ = _) ⟨fun z => D.int.inj z, fun z => congrArg D.int z⟩]; exact Bool.beq_eq_decide_eq _ _)
          | (rw [deq_of (p := _ = _) ⟨fun z => D.str.inj z, fun z => congrArg D.str z⟩]; exact Bool.beq_eq_decide_eq _ _))
  | succ n ih =>
    intro m d e hd he
    have key : ∀ {k : Nat} {ds es : List D}, (∀ d ∈ ds, Okd n d) → (∀ e ∈ es, Okd k e) → PyData.eqvAll (pyL ds) (pyL es) = @decide (ds = es) (Classical.propDecidable _) := by
      intro k ds
      induction ds with
      | nil =>
        intro es _ _
        cases es with
        | nil => simp [pyL, PyData.eqvAll]
        | cons e es => simp [pyL, PyData.eqvAll]
      | cons d ds ihd =>
        intro es h1 h2
        cases es with
        | nil => simp [pyL, PyData.eqvAll]
        | cons e es =>
          simp only [pyL, PyData.eqvAll]
          rw [ih (h1 d List.mem_cons_self) (h2 e List.mem_cons_self), ihd (fun x hx => h1 x (List.mem_cons_of_mem _ hx)) (fun x hx => h2 x (List.mem_cons_of_mem _ hx))]
          unfold deq
          by_cases z : d = e
          · by_cases z2 : ds = es
            · simp [z, z2]
            · simp [z, z2]
          · simp [z]
    cases d <;> cases e <;> first
      | exact hd.elim
      | (cases m <;> exact he.elim)
      | (simp only [py, PyData.eqv]; first
          | exact (deq_self _).symm
          | exact Eq.symm (deq_ne (by intro z; cases z))
          | (rw [deq_of (p := _ = _) ⟨fun z => D.int.inj z, fun z => congrArg D.int z⟩]; exact Bool.beq_eq_decide_eq _ _)
          | (rw [deq_of (p := _ = _) ⟨fun z => D.str.inj z, fun z => congrArg D.str z⟩]; exact Bool.beq_eq_decide_eq _ _)
          | (cases m with
            | zero => exact he.elim
            | succ m =>
              rw [key hd he]
              unfold deq
              simp))
mutual
theorem rp_dp {F : Hp} : ∀ {n : Nat} {d : D} {v : V}, Okd n d → Rp K F v d → Dp K F v (py d)
  | _, .non, _, _, h => by rw [Rp.inv_non h]; simp only [py]; exact .non
  | _, .int _, _, _, h => by rw [Rp.inv_int h]; simp only [py]; exact .int _
  | _, .str _, _, _, h => by rw [Rp.inv_str h]; simp only [py]; exact .str _
  | n + 1, .tup ds, _, o, h => by
    obtain ⟨a, xs, rfl, q, r⟩ := Rp.inv_tup h
    simp only [py]
    exact .tup q (rpl_dp o r)
  | n + 1, .lst ds, _, o, h => by
    obtain ⟨a, xs, rfl, q, r⟩ := Rp.inv_lst h
    simp only [py]
    exact .lst (.inl (.inl q)) (rpl_dp o r)
  | 0, .tup _, _, o, _ => o.elim
  | 0, .lst _, _, o, _ => o.elim
  | 0, .bl _, _, o, _ => o.elim
  | 0, .dct _, _, o, _ => o.elim
  | n + 1, .bl _, _, o, _ => o.elim
  | n + 1, .dct _, _, o, _ => o.elim
theorem rpl_dp {F : Hp} : ∀ {n : Nat} {ds : List D} {vs : List V}, (∀ d ∈ ds, Okd n d) → RpL K F vs ds → DpAll K F vs (pyL ds)
  | _, [], _, _, h => by
    cases h
    simp only [pyL]
    exact .nil
  | n, d :: ds, _, o, h => by
    cases h with
    | cons a b =>
      simp only [pyL]
      exact .cons (rp_dp (o d List.mem_cons_self) a) (rpl_dp (fun x hx => o x (List.mem_cons_of_mem _ hx)) b)
end
mutual
theorem dp_mono {F H : Hp} (k : Kn F H) : ∀ {v : V} {d : PyData}, Dp K F v d → Dp K H v d
  | _, _, .non => .non
  | _, _, .bl b => .bl b
  | _, _, .int i => .int i
  | _, _, .str s => .str s
  | _, _, .lst q r => .lst (k.sqL q) (dpl_mono k r)
  | _, _, .tup q r => .tup (k.sqT q) (dpl_mono k r)
theorem dpl_mono {F H : Hp} (k : Kn F H) : ∀ {v : List V} {d : List PyData}, DpAll K F v d → DpAll K H v d
  | _, _, .nil => .nil
  | _, _, .cons a b => .cons (dp_mono k a) (dpl_mono k b)
end
theorem ob_dp {F H : Hp} {n : Nat} {v : V} (k : Kn F H) (o : Okd n d) (h : ObsD K F H v d) : Dp K H v (py d) := by
  cases d with
  | lst ds =>
    cases n with
    | zero => exact o.elim
    | succ n =>
      obtain ⟨a, xs, rfl, q, r⟩ := h
      simp only [py]
      exact .lst (.inl (.inl q)) (dpl_mono k (rpl_dp o r))
  | dct ds => cases n <;> exact o.elim
  | non => exact dp_mono k (rp_dp o h)
  | bl b => exact dp_mono k (rp_dp o h)
  | int b => exact dp_mono k (rp_dp o h)
  | str b => exact dp_mono k (rp_dp o h)
  | tup b => exact dp_mono k (rp_dp o h)
theorem okd_shaped {n : Nat} (h : Okd n d) (l : n ≤ 64) : SeqAt.shaped (py d) = true := by
  obtain ⟨a, b⟩ := okd_py h
  unfold SeqAt.shaped
  rw [a, decide_eq_true (Nat.le_trans b l)]
  all_goals rfl
theorem ev_eqD {n m : Nat} (ha : Ev K B ta env (.ob d)) (hb : Ev K B tb env (.ob e)) (od : Okd n d) (oe : Okd m e) (ln : n ≤ 64 := by decide) (lm : m ≤ 64 := by decide) : Ev K B (tOp (rEqD K) ta tb) env (.im (.bl (deq d e))) :=
  ev_op ha hb fun B F H x y k ⟨_, hx⟩ ⟨_, hy⟩ Q q => ⟨_, _, ob_dp k od hx, ob_dp k oe hy, okd_shaped od ln, okd_shaped oe lm, by rw [eqv_okd od oe]; exact q _ F H (Gr.refl k) (Rp.bl _)⟩
theorem ev_neD {n m : Nat} (ha : Ev K B ta env (.ob d)) (hb : Ev K B tb env (.ob e)) (od : Okd n d) (oe : Okd m e) (ln : n ≤ 64 := by decide) (lm : m ≤ 64 := by decide) : Ev K B (tOp (rNeD K) ta tb) env (.im (.bl (!deq d e))) :=
  ev_op ha hb fun B F H x y k ⟨_, hx⟩ ⟨_, hy⟩ Q q => ⟨_, _, ob_dp k od hx, ob_dp k oe hy, okd_shaped od ln, okd_shaped oe lm, by rw [eqv_okd od oe]; exact q _ F H (Gr.refl k) (Rp.bl _)⟩
end
end NM
/-! Lists, tuples, dicts, texts upon data. -/
namespace NM
open PySem PySem.Spec PyProof.Rows L2
variable [Tbs]
/-! ### dicts by texts -/
section
variable {α β : Type}
def kget (kvs : List (Str × α)) (s : Str) : Option α := (kvs.find? fun p => decide (p.1 = s)).map (·.2)
def kput (kvs : List (Str × α)) (s : Str) (a : α) : List (Str × α) :=
  if (kvs.any fun p => decide (p.1 = s)) = true then kvs.map (fun p => if p.1 = s then (p.1, a) else p) else kvs ++ [(s, a)]
def kdrop (kvs : List (Str × α)) (s : Str) : List (Str × α) := kvs.filter fun p => decide (p.1 ≠ s)
abbrev emap (f : α → β) (kvs : List (Str × α)) : List (Str × β) := kvs.map fun p => (p.1, f p.2)
theorem kget_nil {s : Str} : kget ([] : List (Str × α)) s = none := rfl
theorem kget_cons {p : Str × α} {r : List (Str × α)} {s : Str} : kget (p :: r) s = if p.1 = s then some p.2 else kget r s := by
  unfold kget
  rw [List.find?_cons]
  by_cases h : p.1 = s
  · simp [h]
  · simp [h]
theorem kget_emap (f : α → β) (kvs : List (Str × α)) (s : Str) : kget (emap f kvs) s = (kget kvs s).map f := by
  induction kvs with
  | nil => rfl
  | cons p r ih =>
    show kget ((p.1, f p.2) :: emap f r) s = _
    rw [kget_cons, kget_cons, ih]
    by_cases h : p.1 = s
    · rw [if_pos h, if_pos h]
      all_goals rfl
    · rw [if_neg h, if_neg h]
theorem kput_emap (f : α → β) (kvs : List (Str × α)) (s : Str) (a : α) : kput (emap f kvs) s (f a) = emap f (kput kvs s a) := by
  have e : (List.any (emap f kvs) fun p => decide (p.1 = s)) = (kvs.any fun p => decide (p.1 = s)) := by
    rw [List.any_map]
    all_goals rfl
  unfold kput
  rw [e]
  by_cases h : (kvs.any fun p => decide (p.1 = s)) = true
  · rw [if_pos h, if_pos h, List.map_map]
    show _ = List.map _ (List.map _ _)
    rw [List.map_map]
    refine List.map_congr_left fun p _ => ?_
    by_cases q : p.1 = s
    · simp [q]
    · simp [q]
  · rw [if_neg h, if_neg h]
    show _ = List.map _ _
    rw [List.map_append]
    all_goals rfl
theorem kdrop_emap (f : α → β) (kvs : List (Str × α)) (s : Str) : kdrop (emap f kvs) s = emap f (kdrop kvs s) := by
  unfold kdrop
  rw [List.filter_map]
  all_goals rfl
end
section
variable {K : PySem.W.Frag} {F : Hp}
theorem RpK.val : ∀ {ks : List (Key × V)} {kvs : List (Str × D)} {s : Str} {d : D}, RpK K F ks kvs → kget kvs s = some d → ∃ v, valV ks (Sum.inr s) = some v ∧ Rp K F v d
  | _, _, _, _, .nil, e => nomatch e
  | _, _, s, d, .cons (s := s') a r, e => by
    rw [kget_cons] at e
    by_cases h : s' = s
    · rw [if_pos h] at e
      cases e
      exact ⟨_, valV_pos (by show (Sum.inr s' : Key) = _; rw [h]), a⟩
    · rw [if_neg h] at e
      obtain ⟨v, h1, h2⟩ := RpK.val r e
      exact ⟨v, by rw [valV_neg (fun z => h (Sum.inr.inj z))]; exact h1, h2⟩
theorem RpK.non : ∀ {ks : List (Key × V)} {kvs : List (Str × D)} {s : Str}, RpK K F ks kvs → kget kvs s = none → valV ks (Sum.inr s) = none
  | _, _, _, .nil, e => rfl
  | _, _, s, .cons (s := s') a r, e => by
    rw [kget_cons] at e
    by_cases h : s' = s
    · rw [if_pos h] at e
      cases e
    · rw [if_neg h] at e
      rw [valV_neg (fun z => h (Sum.inr.inj z))]
      exact RpK.non r e
theorem RpK.some {ks : List (Key × V)} {kvs : List (Str × D)} (r : RpK K F ks kvs) (s : Str) : (valV ks (Sum.inr s)).isSome = (kget kvs s).isSome := by
  cases h : kget kvs s with
  | none => rw [r.non h] <;> rfl
  | some d =>
    obtain ⟨v, e, _⟩ := r.val h
    rw [e] <;> rfl
theorem RpK.any {ks : List (Key × V)} {kvs : List (Str × D)} (r : RpK K F ks kvs) (s : Str) : (ks.any fun kv => decide (kv.1 = (Sum.inr s : Key))) = (kvs.any fun p => decide (p.1 = s)) := by
  induction kvs generalizing ks with
  | nil => cases r; rfl
  | cons p kvs ih =>
    cases r with
    | cons a r =>
      rw [List.any_cons, List.any_cons, ih r]
      congr 1
      exact key_rr _ _
theorem RpK.app : ∀ {ks ls : List (Key × V)} {kvs lvs : List (Str × D)}, RpK K F ks kvs → RpK K F ls lvs → RpK K F (ks ++ ls) (kvs ++ lvs)
  | _, _, _, _, .nil, s => s
  | _, _, _, _, .cons a r, s => .cons a (RpK.app r s)
theorem RpK.put {ks : List (Key × V)} {kvs : List (Str × D)} {s : Str} {v : V} {d : D} (r : RpK K F ks kvs) (a : Rp K F v d) : RpK K F (putK ks (Sum.inr s) v) (kput kvs s d) := by
  unfold putK kput
  rw [r.any s]
  by_cases h : (kvs.any fun p => decide (p.1 = s)) = true
  · rw [if_pos h, if_pos h]
    have key : ∀ {ks : List (Key × V)} {kvs : List (Str × D)}, RpK K F ks kvs → RpK K F (ks.map fun kv => if kv.1 = (Sum.inr s : Key) then (kv.1, v) else kv) (kvs.map fun p => if p.1 = s then (p.1, d) else p) := by
      intro ks kvs r
      induction kvs generalizing ks with
      | nil => cases r; exact .nil
      | cons p kvs ih =>
        cases r with
        | cons b r =>
          rename_i s' v' ks' d'
          rw [List.map_cons, List.map_cons]
          by_cases q : s' = s
          · rw [if_pos (show ((Sum.inr s', v') : Key × V).1 = (Sum.inr s : Key) by show Sum.inr s' = _; rw [q]), if_pos (show ((s', d') : Str × D).1 = s from q)]
            exact .cons a (ih r)
          · rw [if_neg (show ¬ ((Sum.inr s', v') : Key × V).1 = (Sum.inr s : Key) from fun z => q (Sum.inr.inj z)), if_neg (show ¬ ((s', d') : Str × D).1 = s from q)]
            exact .cons b (ih r)
    exact key r
  · rw [if_neg h, if_neg h]
    exact r.app (.cons a .nil)
theorem RpK.drop {s : Str} : ∀ {ks : List (Key × V)} {kvs : List (Str × D)}, RpK K F ks kvs → RpK K F (dropK ks (Sum.inr s)) (kdrop kvs s)
  | _, _, .nil => .nil
  | _, _, .cons (s := s') (v := v') (ks := ks') (d := d') (ds := ds') a r => by
    unfold dropK kdrop
    rw [List.filter_cons, List.filter_cons]
    by_cases q : s' = s
    · rw [if_neg (by simp [q]), if_neg (by simp [q])]
      exact RpK.drop r
    · rw [if_pos (by simp [q]), if_pos (by simp [q])]
      exact .cons a (RpK.drop r)
theorem RpK.getI : ∀ {ks : List (Key × V)} {kvs : List (Str × D)} {i : Nat} {k : Key} {v : V}, RpK K F ks kvs → ks[i]? = Option.some (k, v) → ∃ s d, kvs[i]? = Option.some (s, d) ∧ k = Sum.inr s ∧ Rp K F v d
  | _, _, i, _, _, .nil, e => by simp at e
  | _, _, 0, _, _, .cons a _, e => by
    simp at e
    obtain ⟨rfl, rfl⟩ := e
    exact ⟨_, _, rfl, rfl, a⟩
  | _, _, i + 1, k, v, .cons _ t, e => by
    obtain ⟨s, d, h1, h2⟩ := RpK.getI (i := i) (k := k) (v := v) t (by simpa using e)
    exact ⟨s, d, by simpa using h1, h2⟩
theorem RpL.atI {xs : List V} {ds : List D} {i : Int} {d : D} (r : RpL K F xs ds) (h : L2.atI ds i = some d) : ∃ v, L2.atI xs i = some v ∧ Rp K F v d := by
  unfold L2.atI at h ⊢
  rw [r.length]
  cases e : ixN ds.length i with
  | none => rw [e] at h; cases h
  | some j =>
    rw [e] at h
    exact r.get h
end
section
variable {K : PySem.W.Frag} {B : Hp} {env : Env} {ta tb tc te td ty tx : TE} {t : TA} {a b c r : Vl} {d e : D} {ds es : List D} {kvs : List (Str × D)}
/-! ### displays -/
/-- the data of frozen results -/
def dsOf : List Vl → List D
  | .im d :: r => d :: dsOf r
  | _ => []
theorem ev_tup {rs : List Vl} (h : EvA K B t env rs) (e : rs = (dsOf rs).map .im := by rfl) (hl : (dsOf rs).length ≤ sizeLine := by exact Nat.le_of_ble_eq_true rfl) : Ev K B (tTup t) env (.im (.tup (dsOf rs))) := fun F H σ R Q q =>
  h F H σ R _ fun vs F' H' g r => by
    rw [e] at r
    have r := r.ims
    refine ⟨by rw [r.length]; exact hl, fun p hp => q _ _ _ (g.trans (Gr.newF g.kn hp)) (.tup (.inl (.inl upd_same)) (r.mono (Gr.newF (o := .tup vs) g.kn hp).fk))⟩
/-- a new list's cell -/
theorem nw_new {F H : Hp} {p : Addr} {xs : List V} (k : Kn F H) (hp : H p = none) (r : RpL K F xs ds) : VlOk K B H F (upd H p (.lst xs)) (.ref p) (.nw (oM (.lst ds))) :=
  ⟨cell p (.lst xs), fun a u z => by obtain ⟨rfl, rfl⟩ := of_cell z; exact ⟨upd_same, nx_lst⟩, fun a u z => by obtain ⟨rfl, rfl⟩ := of_cell z; exact k.free hp, fun a u z => by obtain ⟨rfl, rfl⟩ := of_cell z; exact Fr.of hp, p, xs, rfl, upd_same, r⟩
theorem nw_newD {F H : Hp} {p : Addr} {xs : List (Key × V)} (k : Kn F H) (hp : H p = none) (r : RpK K F xs kvs) : VlOk K B H F (upd H p (.dK xs)) (.ref p) (.nw (oM (.dct kvs))) :=
  ⟨cell p (.dK xs), fun a u z => by obtain ⟨rfl, rfl⟩ := of_cell z; exact ⟨upd_same, nx_dK⟩, fun a u z => by obtain ⟨rfl, rfl⟩ := of_cell z; exact k.free hp, fun a u z => by obtain ⟨rfl, rfl⟩ := of_cell z; exact Fr.of hp, p, xs, rfl, upd_same, r⟩
theorem ev_lst {rs : List Vl} (h : EvA K B t env rs) (e : rs = (dsOf rs).map .im := by rfl) (hl : (dsOf rs).length ≤ sizeLine := by exact Nat.le_of_ble_eq_true rfl) : Ev K B (tLst t) env (.nw (oM (.lst (dsOf rs)))) := fun F H σ R Q q =>
  h F H σ R _ fun vs F' H' g r => by
    rw [e] at r
    have r := r.ims
    refine ⟨by rw [r.length]; exact hl, fun p hp => q _ _ _ (g.trans (Gr.new g.kn hp)) ((nw_new g.kn hp r).back g.mo)⟩
theorem ev_dnew : Ev K B tDNewK env (.nw (oM (.dct []))) := fun F H σ R Q q p hp => q _ _ _ (Gr.new R.kn hp) (nw_newD R.kn hp .nil)
/-! ### items -/
theorem ev_ixL {i : Int} (ha : Ev K B ta env (.ob (.lst ds))) (hb : Ev K B tb env (.im (.int i))) (h : atI ds i = some d) : Ev K B (tOp (rIxL K) ta tb) env (.im d) :=
  ev_op ha hb fun B F H x y k ⟨_, hx⟩ ⟨_, hy⟩ Q q => by
    obtain ⟨p, xs, rfl, ex, r⟩ := hx
    obtain rfl := Rp.inv_int hy
    obtain ⟨v, hv, rv⟩ := r.atI h
    exact ⟨p, xs, i, v, rfl, rfl, .inl (.inl ex), hv, q v F H (Gr.refl k) rv⟩
theorem ev_ixT {i : Int} (ha : Ev K B ta env (.im (.tup ds))) (hb : Ev K B tb env (.im (.int i))) (h : atI ds i = some d) : Ev K B (tOp (rIxT K) ta tb) env (.im d) :=
  ev_op ha hb fun B F H x y k ⟨_, hx⟩ ⟨_, hy⟩ Q q => by
    obtain ⟨p, xs, rfl, ex, r⟩ := Rp.inv_tup hx
    obtain rfl := Rp.inv_int hy
    obtain ⟨v, hv, rv⟩ := r.atI h
    exact ⟨p, xs, i, v, rfl, rfl, k.sqT ex, hv, q v F H (Gr.refl k) rv⟩
theorem ev_ixS {i : Int} {s : Str} {n : Nat} (ha : Ev K B ta env (.im (.str s))) (hb : Ev K B tb env (.im (.int i))) (hl : s.length ≤ sizeLine) (h : atI s.cps.toList i = some n) : Ev K B (tOp rIxS ta tb) env (.im (.str (sign n))) :=
  ev_op ha hb fun B F H x y k ⟨_, hx⟩ ⟨_, hy⟩ Q q => by
    obtain rfl := Rp.inv_str hx
    obtain rfl := Rp.inv_int hy
    exact ⟨s, i, n, rfl, rfl, hl, h, q _ F H (Gr.refl k) (.str _)⟩
theorem ev_ixSc {i : Int} {ns : List Int} {n : Int} (ha : Ev K B ta env (.lo (oS ns))) (hb : Ev K B tb env (.im (.int i))) (h : atI ns i = some n) : Ev K B (tOp (rIxL K) ta tb) env (.im (.int n)) :=
  ev_op ha hb fun B F H x y k ⟨_, hx⟩ ⟨_, hy⟩ Q q => by
    obtain ⟨p, rfl, ex⟩ := hx
    obtain rfl := Rp.inv_int hy
    have h2 : atI (ns.map V.int) i = some (V.int n) := by
      unfold atI at h ⊢
      rw [List.length_map]
      cases e : ixN ns.length i with
      | none => rw [e] at h; cases h
      | some j =>
        rw [e] at h
        have h : ns[j]? = some n := h
        show (ns.map V.int)[j]? = _
        rw [List.getElem?_map, h] <;> rfl
    exact ⟨p, _, i, _, rfl, rfl, ex, h2, q _ F H (Gr.refl k) (.int _)⟩
/-! ### len -/
abbrev rLenC (K : PySem.W.Frag) : List V → Hp → VK → Prop := fun xs H Q => ∃ x n, xs = [x] ∧ LenV K x H n ∧ Q (.int n) H
def rLenD : List V → Hp → VK → Prop := fun xs H Q => ∃ a kvs, xs = [V.ref a] ∧ Rd H a (.dK kvs) ∧ Q (.int kvs.length) H
theorem call_lenR {X : Cx} : CallR X (.builtin "len") rLenD := by
  intro pins s σ H xs us Q I r h
  obtain ⟨a, kvs, rfl, ha, q⟩ := h
  obtain ⟨u, rfl, ru⟩ := vals1 r
  cases ru
  exact d_len I ha fun t s' I' => ⟨.int kvs.length, H, I', ⟨t, rfl⟩, q⟩
theorem ev_lenL (h : EvA K B t env [.ob (.lst ds)]) : Ev K B (tCB (rLenC K) t) env (.im (.int ds.length)) :=
  ev_cb h fun B F H vs k ⟨H0, hv⟩ Q q => by
    cases hv with
    | cons hv hn =>
      cases hn
      obtain ⟨p, xs, rfl, ex, r⟩ := hv
      exact ⟨_, ds.length, rfl, .inl ⟨xs, .inl (.inl ex), r.length.symm⟩, q _ F H (Gr.refl k) (.int _)⟩
theorem ev_lenT (h : EvA K B t env [.im (.tup ds)]) : Ev K B (tCB (rLenC K) t) env (.im (.int ds.length)) :=
  ev_cb h fun B F H vs k ⟨H0, hv⟩ Q q => by
    cases hv with
    | cons hv hn =>
      cases hn
      obtain ⟨p, xs, rfl, ex, r⟩ := Rp.inv_tup hv
      exact ⟨_, ds.length, rfl, .inr ⟨xs, k.sqT ex, r.length.symm⟩, q _ F H (Gr.refl k) (.int _)⟩
theorem ev_lenS {s : Str} (h : EvA K B t env [.im (.str s)]) (hl : s.length ≤ sizeLine) : Ev K B (tCB (rLenC K) t) env (.im (.int s.length)) :=
  ev_cb h fun B F H vs k ⟨H0, hv⟩ Q q => by
    cases hv with
    | cons hv hn =>
      cases hn
      obtain rfl := Rp.inv_str hv
      exact ⟨_, s.length, rfl, ⟨hl, rfl⟩, q _ F H (Gr.refl k) (.int _)⟩
theorem ev_lenSc {ns : List Int} (h : EvA K B t env [.lo (oS ns)]) : Ev K B (tCB (rLenC K) t) env (.im (.int ns.length)) :=
  ev_cb h fun B F H vs k ⟨H0, hv⟩ Q q => by
    cases hv with
    | cons hv hn =>
      cases hn
      obtain ⟨p, rfl, ex⟩ := hv
      exact ⟨_, ns.length, rfl, .inl ⟨_, ex, by rw [List.length_map]⟩, q _ F H (Gr.refl k) (.int _)⟩
theorem ev_lenD (h : EvA K B t env [.ob (.dct kvs)]) : Ev K B (tCB rLenD t) env (.im (.int kvs.length)) :=
  ev_cb h fun B F H vs k ⟨H0, hv⟩ Q q => by
    cases hv with
    | cons hv hn =>
      cases hn
      obtain ⟨p, ks, rfl, ex, r⟩ := hv
      exact ⟨p, ks, rfl, ex, by rw [r.length]; exact q _ F H (Gr.refl k) (.int _)⟩
/-! ### in -/
theorem inV_str {n : Str} : ∀ {ns : List Str}, inV (.str n) (ns.map V.str) = decide (n ∈ ns)
  | [] => by simp [inV]
  | m :: ns => by
    have ih := inV_str (n := n) (ns := ns)
    unfold inV at ih ⊢
    rw [List.map_cons, List.any_cons, ih]
    show ((m == n) || _) = _
    by_cases h : m = n
    · subst h; simp
    · have : n ≠ m := fun z => h z.symm
      simp [h, this]
theorem allflat_str : ∀ ns : List Str, (ns.map V.str).all flatV = true
  | [] => rfl
  | n :: ns => by rw [List.map_cons, List.all_cons, allflat_str ns] <;> rfl
theorem ev_inL {n : Str} {ns : List Str} (ha : Ev K B ta env (.im (.str n))) (hb : Ev K B tb env (.ob (.lst (ns.map .str)))) : Ev K B (tOp (rIn K false) ta tb) env (.im (.bl (decide (n ∈ ns)))) :=
  ev_op ha hb fun B F H x y k ⟨_, hx⟩ ⟨_, hy⟩ Q q => by
    obtain rfl := Rp.inv_str hx
    obtain ⟨p, xs, rfl, ex, r⟩ := hy
    obtain rfl := r.strs
    exact ⟨p, _, rfl, .inl (.inl (.inl ex)), rfl, allflat_str ns, by rw [if_neg Bool.false_ne_true, inV_str]; exact q _ F H (Gr.refl k) (.bl _)⟩
theorem ev_ninL {n : Str} {ns : List Str} (ha : Ev K B ta env (.im (.str n))) (hb : Ev K B tb env (.ob (.lst (ns.map .str)))) : Ev K B (tOp (rIn K true) ta tb) env (.im (.bl (!decide (n ∈ ns)))) :=
  ev_op ha hb fun B F H x y k ⟨_, hx⟩ ⟨_, hy⟩ Q q => by
    obtain rfl := Rp.inv_str hx
    obtain ⟨p, xs, rfl, ex, r⟩ := hy
    obtain rfl := r.strs
    exact ⟨p, _, rfl, .inl (.inl (.inl ex)), rfl, allflat_str ns, by rw [if_pos rfl, inV_str]; exact q _ F H (Gr.refl k) (.bl _)⟩
theorem ev_inT {n : Str} {ns : List Str} (ha : Ev K B ta env (.im (.str n))) (hb : Ev K B tb env (.im (.tup (ns.map .str)))) : Ev K B (tOp (rIn K false) ta tb) env (.im (.bl (decide (n ∈ ns)))) :=
  ev_op ha hb fun B F H x y k ⟨_, hx⟩ ⟨_, hy⟩ Q q => by
    obtain rfl := Rp.inv_str hx
    obtain ⟨p, xs, rfl, ex, r⟩ := Rp.inv_tup hy
    obtain rfl := r.strs
    exact ⟨p, _, rfl, .inr (k.sqT ex), rfl, allflat_str ns, by rw [if_neg Bool.false_ne_true, inV_str]; exact q _ F H (Gr.refl k) (.bl _)⟩
abbrev rInSg : R2 := fun x y H Q => ∃ (c : Nat) (z : Str), x = .str ⟨#[c]⟩ ∧ y = .str z ∧ Q (.bl (decide (c ∈ z.cps.toList))) H
theorem ev_inSg {n : Nat} {s : Str} (ha : Ev K B ta env (.im (.str (sign n)))) (hb : Ev K B tb env (.im (.str s))) : Ev K B (tOp rInSg ta tb) env (.im (.bl (decide (n ∈ s.cps.toList)))) :=
  ev_op ha hb fun B F H x y k ⟨_, hx⟩ ⟨_, hy⟩ Q q => ⟨n, s, Rp.inv_str hx, Rp.inv_str hy, q _ F H (Gr.refl k) (.bl _)⟩
/-! ### dicts -/
theorem ev_dget {s : Str} (hd : Ev K B td env (.ob (.dct kvs))) (hy : Ev K B ty env (.im (.str s))) (h : kget kvs s = some d) : Ev K B (tDGet td ty) env (.im d) := fun F H σ R Q q =>
  hd F H σ R _ fun x F1 H1 g1 x1 => hy F1 H1 σ (R.step g1) _ fun y F2 H2 g2 y2 => by
    obtain ⟨p, ks, rfl, ex, r⟩ := (oB (.dct kvs)).mono g2.fk g2.hk x1
    obtain rfl := Rp.inv_str y2
    obtain ⟨v, hv, rv⟩ := r.val h
    exact ⟨p, v, rfl, .inl ⟨ks, Sum.inr s, ex, rfl, hv.symm⟩, q v F2 H2 (g1.trans g2) rv⟩
theorem ev_din {s : Str} (hy : Ev K B ty env (.im (.str s))) (hd : Ev K B td env (.ob (.dct kvs))) : Ev K B (tDIn ty td) env (.im (.bl (kget kvs s).isSome)) := fun F H σ R Q q =>
  hy F H σ R _ fun x F1 H1 g1 x1 => hd F1 H1 σ (R.step g1) _ fun y F2 H2 g2 y2 => by
    obtain ⟨p, ks, rfl, ex, r⟩ := y2
    obtain rfl := Rp.inv_str x1
    refine ⟨p, _, rfl, .inl ⟨ks, Sum.inr s, ex, rfl, rfl⟩, ?_⟩
    rw [r.some s]
    exact q _ F2 H2 (g1.trans g2) (.bl _)
theorem ev_dnin {s : Str} (hy : Ev K B ty env (.im (.str s))) (hd : Ev K B td env (.ob (.dct kvs))) : Ev K B (tDNotIn ty td) env (.im (.bl (!(kget kvs s).isSome))) := fun F H σ R Q q =>
  hy F H σ R _ fun x F1 H1 g1 x1 => hd F1 H1 σ (R.step g1) _ fun y F2 H2 g2 y2 => by
    obtain ⟨p, ks, rfl, ex, r⟩ := y2
    obtain rfl := Rp.inv_str x1
    refine ⟨p, _, rfl, .inl ⟨ks, Sum.inr s, ex, rfl, rfl⟩, ?_⟩
    rw [r.some s]
    exact q _ F2 H2 (g1.trans g2) (.bl _)
theorem ev_dget2 {s : Str} (hd : Ev K B td env (.ob (.dct kvs))) (hy : Ev K B ty env (.im (.str s))) (hx : Ev K B tx env (.im e)) : Ev K B (tDGet2 td ty tx) env (.im ((kget kvs s).getD e)) := fun F H σ R Q q =>
  hd F H σ R _ fun x F1 H1 g1 x1 => by
    obtain ⟨p, ks, rfl, ex, r⟩ := x1
    refine ⟨p, rfl, .inl ⟨ks, ex⟩, hy F1 H1 σ (R.step g1) _ fun y F2 H2 g2 y2 => hx F2 H2 σ ((R.step g1).step g2) _ fun z F3 H3 g3 z3 => ?_⟩
    obtain rfl := Rp.inv_str y2
    have g13 := g2.trans g3
    refine ⟨_, .inl ⟨ks, Sum.inr s, g13.hk.rd ex, rfl, rfl⟩, ?_⟩
    cases h : kget kvs s with
    | none =>
      rw [r.non h]
      exact q _ F3 H3 (g1.trans g13) (by rw [h]; exact z3)
    | some d =>
      obtain ⟨v, hv, rv⟩ := r.val h
      rw [hv]
      exact q _ F3 H3 (g1.trans g13) (by rw [h]; exact Rp.mono g13.fk rv)
/-! ### + of lists, of tuples, of texts; list * n -/
theorem ev_cat (ha : Ev K B ta env (.ob (.lst ds))) (hb : Ev K B tb env (.ob (.lst es))) (hl : ds.length + es.length ≤ sizeLine) : Ev K B (tOp rCat ta tb) env (.nw (oM (.lst (ds ++ es)))) :=
  ev_op ha hb fun B F H x y k ⟨_, hx⟩ ⟨_, hy⟩ Q q => by
    obtain ⟨p, xs, rfl, ex, r⟩ := hx
    obtain ⟨p', ys, rfl, ey, r'⟩ := hy
    exact ⟨p, p', xs, ys, rfl, rfl, ex, ey, by rw [r.length, r'.length]; exact hl, fun l hn => q _ F _ (Gr.new k hn) (nw_new k hn (r.app r'))⟩
theorem RpL.rep {F : Hp} {xs : List V} (r : RpL K F xs ds) : ∀ n : Nat, RpL K F (List.replicate n xs).flatten (List.replicate n ds).flatten
  | 0 => .nil
  | n + 1 => by
    rw [List.replicate_succ, List.replicate_succ, List.flatten_cons, List.flatten_cons]
    exact r.app (RpL.rep r n)
theorem ev_rep {n : Int} (ha : Ev K B ta env (.ob (.lst ds))) (hb : Ev K B tb env (.im (.int n))) (h1 : -(2 ^ 63) ≤ n) (h2 : n < 2 ^ 63) (hl : ds.length * n.toNat ≤ sizeLine) : Ev K B (tOp rRep ta tb) env (.nw (oM (.lst (List.replicate n.toNat ds).flatten))) :=
  ev_op ha hb fun B F H x y k ⟨_, hx⟩ ⟨_, hy⟩ Q q => by
    obtain ⟨p, xs, rfl, ex, r⟩ := hx
    obtain rfl := Rp.inv_int hy
    exact ⟨p, n, xs, rfl, rfl, ex, h1, h2, by rw [r.length]; exact hl, fun l hn => q _ F _ (Gr.new k hn) (nw_new k hn (r.rep _))⟩
theorem ev_catT (ha : Ev K B ta env (.im (.tup ds))) (hb : Ev K B tb env (.im (.tup es))) (hl : ds.length + es.length ≤ sizeLine) : Ev K B (tOp (rCatA K) ta tb) env (.im (.tup (ds ++ es))) :=
  ev_op ha hb fun B F H x y k ⟨_, hx⟩ ⟨_, hy⟩ Q q => by
    obtain ⟨p, xs, rfl, ex, r⟩ := Rp.inv_tup hx
    obtain ⟨p', ys, rfl, ey, r'⟩ := Rp.inv_tup hy
    refine ⟨p, p', xs, ys, rfl, rfl, k.sqT ex, k.sqT ey, by rw [r.length, r'.length]; exact hl, ?_⟩
    have rr := r.app r'
    refine ⟨fun z => ?_, fun z z' => ?_, fun z z' l hn => ?_⟩
    · subst z
      cases r
      exact q _ F H (Gr.refl k) (.tup ey r')
    · subst z'
      cases r'
      refine q _ F H (Gr.refl k) ?_
      show Rp K F _ _
      rw [List.append_nil]
      exact .tup ex r
    · exact q _ _ _ (Gr.newF k hn) (.tup (.inl (.inl upd_same)) (rr.mono (Gr.newF (o := .tup (xs ++ ys)) k hn).fk))
abbrev rAddSt : R2 := fun x y H Q => ∃ i j, x = .str i ∧ y = .str j ∧ i.length + j.length ≤ sizeLine ∧ Q (.str (i ++ j)) H
theorem ev_addS {i j : Str} (ha : Ev K B ta env (.im (.str i))) (hb : Ev K B tb env (.im (.str j))) (hl : i.length + j.length ≤ sizeLine) : Ev K B (tOp rAddSt ta tb) env (.im (.str (i ++ j))) :=
  ev_op ha hb fun B F H x y k ⟨_, hx⟩ ⟨_, hy⟩ Q q => ⟨i, j, Rp.inv_str hx, Rp.inv_str hy, hl, q _ F H (Gr.refl k) (.str _)⟩
abbrev rLtSt : R2 := fun x y H Q => ∃ i j, x = .str i ∧ y = .str j ∧ Q (.bl (decide (i.cps.toList < j.cps.toList))) H
theorem ev_ltS {i j : Str} (ha : Ev K B ta env (.im (.str i))) (hb : Ev K B tb env (.im (.str j))) : Ev K B (tOp rLtSt ta tb) env (.im (.bl (decide (i.cps.toList < j.cps.toList)))) :=
  ev_op ha hb fun B F H x y k ⟨_, hx⟩ ⟨_, hy⟩ Q q => ⟨i, j, Rp.inv_str hx, Rp.inv_str hy, q _ F H (Gr.refl k) (.bl _)⟩
/-! ### built-ins -/
abbrev rAbs : List V → Hp → VK → Prop := fun xs H Q => ∃ i, xs = [.int i] ∧ Q (.int (if i < 0 then -i else i)) H
theorem ev_abs {i : Int} (h : EvA K B t env [.im (.int i)]) : Ev K B (tCB rAbs t) env (.im (.int (if i < 0 then -i else i))) :=
  ev_cb h fun B F H vs k ⟨H0, hv⟩ Q q => by
    cases hv with
    | cons hv hn =>
      cases hn
      obtain rfl := Rp.inv_int hv
      exact ⟨i, rfl, q _ F H (Gr.refl k) (.int _)⟩
abbrev rMax2 : List V → Hp → VK → Prop := fun xs H Q => ∃ i j, xs = [.int i, .int j] ∧ Q (.int (if j > i then j else i)) H
abbrev rMin2 : List V → Hp → VK → Prop := fun xs H Q => ∃ i j, xs = [.int i, .int j] ∧ Q (.int (if j < i then j else i)) H
theorem ev_max2 {i j : Int} (h : EvA K B t env [.im (.int i), .im (.int j)]) : Ev K B (tCB rMax2 t) env (.im (.int (max i j))) :=
  ev_cb h fun B F H vs k ⟨H0, hv⟩ Q q => by
    cases hv with
    | cons hv hn =>
      cases hn with
      | cons hw hn =>
        cases hn
        obtain rfl := Rp.inv_int hv
        obtain rfl := Rp.inv_int hw
        refine ⟨i, j, rfl, q _ F H (Gr.refl k) ?_⟩
        have e : (if j > i then j else i) = max i j := by
          by_cases z : j > i
          · rw [if_pos z]; omega
          · rw [if_neg z]; omega
        rw [e]
        exact Rp.int _
theorem ev_min2 {i j : Int} (h : EvA K B t env [.im (.int i), .im (.int j)]) : Ev K B (tCB rMin2 t) env (.im (.int (min i j))) :=
  ev_cb h fun B F H vs k ⟨H0, hv⟩ Q q => by
    cases hv with
    | cons hv hn =>
      cases hn with
      | cons hw hn =>
        cases hn
        obtain rfl := Rp.inv_int hv
        obtain rfl := Rp.inv_int hw
        refine ⟨i, j, rfl, q _ F H (Gr.refl k) ?_⟩
        have e : (if j < i then j else i) = min i j := by
          by_cases z : j < i
          · rw [if_pos z]; omega
          · rw [if_neg z]; omega
        rw [e]
        exact Rp.int _
abbrev rInt1 : List V → Hp → VK → Prop := fun xs H Q => (∃ i, xs = [.int i] ∧ Q (.int i) H) ∨ ∃ k, xs = [.bl k] ∧ Q (.int (if k then 1 else 0)) H
theorem ev_intB {b : Bool} (h : EvA K B t env [.im (.bl b)]) : Ev K B (tCB rInt1 t) env (.im (.int (if b then 1 else 0))) :=
  ev_cb h fun B F H vs k ⟨H0, hv⟩ Q q => by
    cases hv with
    | cons hv hn =>
      cases hn
      obtain rfl := Rp.inv_bl hv
      exact .inr ⟨b, rfl, q _ F H (Gr.refl k) (.int _)⟩
theorem ev_sum {ns : List Int} (h : EvA K B t env [.ob (.lst (ns.map .int))]) : Ev K B (tCB (rSum K) t) env (.im (.int ns.sum)) :=
  ev_cb h fun B F H vs k ⟨H0, hv⟩ Q q => by
    cases hv with
    | cons hv hn =>
      cases hn
      obtain ⟨p, xs, rfl, ex, r⟩ := hv
      obtain rfl := r.ints
      exact ⟨p, ns, rfl, .inl (.inl ex), q _ F H (Gr.refl k) (.int _)⟩
theorem ev_all {bs : List Bool} (h : EvA K B t env [.ob (.lst (bs.map .bl))]) : Ev K B (tCB (rAll K) t) env (.im (.bl (bs.all id))) :=
  ev_cb h fun B F H vs k ⟨H0, hv⟩ Q q => by
    cases hv with
    | cons hv hn =>
      cases hn
      obtain ⟨p, xs, rfl, ex, r⟩ := hv
      obtain rfl := r.bls
      exact ⟨p, bs, rfl, .inl (.inl ex), q _ F H (Gr.refl k) (.bl _)⟩
abbrev rListC (K : PySem.W.Frag) : List V → Hp → VK → Prop := fun xs H Q => ∃ p ys, xs = [.ref p] ∧ (SqL K H p ys ∨ SqT K H p ys) ∧ ∀ l, H l = none → Q (.ref l) (upd H l (.lst ys))
theorem ev_listL (h : EvA K B t env [.ob (.lst ds)]) : Ev K B (tCB (rListC K) t) env (.nw (oM (.lst ds))) :=
  ev_cb h fun B F H vs k ⟨H0, hv⟩ Q q => by
    cases hv with
    | cons hv hn =>
      cases hn
      obtain ⟨p, xs, rfl, ex, r⟩ := hv
      exact ⟨p, xs, rfl, .inl (.inl (.inl ex)), fun l hn => q _ F _ (Gr.new k hn) (nw_new k hn r)⟩
theorem ev_listT (h : EvA K B t env [.im (.tup ds)]) : Ev K B (tCB (rListC K) t) env (.nw (oM (.lst ds))) :=
  ev_cb h fun B F H vs k ⟨H0, hv⟩ Q q => by
    cases hv with
    | cons hv hn =>
      cases hn
      obtain ⟨p, xs, rfl, ex, r⟩ := Rp.inv_tup hv
      exact ⟨p, xs, rfl, .inr (k.sqT ex), fun l hn => q _ F _ (Gr.new k hn) (nw_new k hn r)⟩
abbrev rListK : List V → Hp → VK → Prop := fun xs H Q => ∃ (a : Addr) (kvs : List (Key × V)), xs = [.ref a] ∧ Rd H a (.dK kvs) ∧ ∀ p, H p = none → Q (.ref p) (upd H p (.lst (kvs.map fun kv => kV kv.1)))
theorem RpK.keyL {F : Hp} : ∀ {ks : List (Key × V)} {kvs : List (Str × D)}, RpK K F ks kvs → RpL K F (ks.map fun kv => kV kv.1) ((kvs.map (·.1)).map .str)
  | _, _, .nil => .nil
  | _, _, .cons a r => .cons (.str _) (RpK.keyL r)
theorem ev_listD (h : EvA K B t env [.ob (.dct kvs)]) : Ev K B (tCB rListK t) env (.nw (oM (.lst ((kvs.map (·.1)).map .str)))) :=
  ev_cb h fun B F H vs k ⟨H0, hv⟩ Q q => by
    cases hv with
    | cons hv hn =>
      cases hn
      obtain ⟨p, xs, rfl, ex, r⟩ := hv
      exact ⟨p, xs, rfl, ex, fun l hn => q _ F _ (Gr.new k hn) (nw_new k hn r.keyL)⟩
abbrev rTupC (K : PySem.W.Frag) : List V → Hp → VK → Prop := fun xs H Q => ∃ p ys, xs = [.ref p] ∧ ((SqL K H p ys ∧ ∀ l, H l = none → Q (.ref l) (upd H l (.tup ys))) ∨ (SqT K H p ys ∧ Q (.ref p) H))
theorem ev_tupleL (h : EvA K B t env [.ob (.lst ds)]) : Ev K B (tCB (rTupC K) t) env (.im (.tup ds)) :=
  ev_cb h fun B F H vs k ⟨H0, hv⟩ Q q => by
    cases hv with
    | cons hv hn =>
      cases hn
      obtain ⟨p, xs, rfl, ex, r⟩ := hv
      exact ⟨p, xs, rfl, .inl ⟨.inl (.inl ex), fun l hn => q _ _ _ (Gr.newF k hn) (.tup (.inl (.inl upd_same)) (r.mono (Gr.newF (o := .tup xs) k hn).fk))⟩⟩
theorem ev_revL (h : Ev K B te env (.ob (.lst ds))) : Ev K B (tRevL K te) env (.nw (oM (.lst ds.reverse))) := fun F H σ R Q q =>
  h F H σ R _ fun v F' H' g r => by
    obtain ⟨p, xs, rfl, ex, r⟩ := r
    exact ⟨p, xs, rfl, .inl (.inl ex), fun l hn => q _ F' _ (g.trans (Gr.new g.kn hn)) ((nw_new g.kn hn r.rev).back g.mo)⟩
end
end NM
/-! sorted and min of data. -/
namespace NM
open PySem PySem.Spec PyProof.Rows L2
variable [Tbs]
open PySem.W (dataLe AllAlike Sortable EachIs DatumOrd Datum)
def rSortG (K : PySem.W.Frag) : List V → Hp → VK → Prop := fun vs H Q => ∃ (a : Addr) (bs : List (V × PyData)), vs = [V.ref a] ∧ SqL K H a (bs.map Prod.fst) ∧ (∀ b ∈ bs, Dp K H b.1 b.2) ∧ AllAlike (bs.map Prod.snd) ∧ Sortable (bs.map Prod.snd) ∧ (∀ b ∈ bs, b.2.depth ≤ 60) ∧
  ∀ p, H p = none → Q (.ref p) (upd H p (.lst ((bs.mergeSort (dataLe false Prod.snd)).map Prod.fst)))
def rMinG (K : PySem.W.Frag) : List V → Hp → VK → Prop := fun vs H Q => ∃ (a : Addr) (xs : List V) (d : PyData) (ds : List PyData), vs = [V.ref a] ∧ SqL K H a xs ∧ DpAll K H xs (d :: ds) ∧ PySem.W.AlikeAll (d :: ds) ∧ PyData.depthAll (d :: ds) ≤ 60 ∧
  ∀ (i : Nat) (v : V), xs[i]? = some v → (d :: ds)[i]? = some (PySem.W.minD d ds) → Q v H
theorem each_vals : ∀ {bs : List (V × PyData)} {us : List Value}, Vals (bs.map Prod.fst) us → EachIs (fun (v : Value) (b : V × PyData) => RelV b.1 v) us bs
  | [], _, r => by cases r; exact .nil
  | b :: bs, _, r => by
    cases r with
    | cons a r => exact .cons a (each_vals r)
theorem vals_each : ∀ {bs : List (V × PyData)} {us : List Value}, EachIs (fun (v : Value) (b : V × PyData) => RelV b.1 v) us bs → Vals (bs.map Prod.fst) us
  | [], _, r => by cases r; exact .nil
  | b :: bs, _, r => by
    cases r with
    | cons a r => exact .cons a (vals_each r)
theorem each_reads {X : Cx} {pins : List (Addr × Obj)} {σ : L2.St} {H : Hp} {s : Shared} (I : Inv X pins σ H s) : ∀ {bs : List (V × PyData)} {us : List Value}, Vals (bs.map Prod.fst) us → (∀ b ∈ bs, Dp X.K H b.1 b.2) → EachIs (fun (v : Value) (b : V × PyData) => ∃ as, Reads s.heap v b.2 as) us bs
  | [], _, r, _ => by cases r; exact .nil
  | b :: bs, _, r, h => by
    cases r with
    | cons a r => exact .cons (Dp.reads I _ _ _ (h b List.mem_cons_self) a) (each_reads I r fun x hx => h x (List.mem_cons_of_mem _ hx))
theorem cr_sortedG {X : Cx} (hu : X.A.units + 64 < cLine) : CallR X (.builtin "sorted") (rSortG X.K) := by
  intro pins s σ H vs us Q I r h
  obtain ⟨a, bs, rfl, hs, hd, hal, hk, hdp, q⟩ := h
  obtain ⟨its, rv, hl, hz⟩ := I.list hs
  rw [List.length_map] at hz
  rw [Vals.ref1 r]
  refine PySem.W.sorted_data (enc := Prod.snd) hl.isList (each_vals rv) (each_reads I rv hd) hal hk hz (fun b hb => by have := hdp b hb; omega) fun out h1 h2 => ?_
  obtain ⟨ep, he'⟩ := PyProof.Rows.sortedAll_at s.heap its out.toArray
  have hlen : ((bs.mergeSort (dataLe false Prod.snd)).map Prod.fst).length ≤ sizeLine := by
    rw [List.length_map, List.length_mergeSort]
    exact hz
  exact ⟨.ref _, upd H (s.heap.objs.size + 1) (.lst ((bs.mergeSort (dataLe false Prod.snd)).map Prod.fst)), I.laid (t' := s.toks) (fun _ _ => PyProof.Rows.sortedAll_old) (Nat.le_succ _) ⟨hlen, out, ep, vals_each h2, he'⟩, rfl, q _ (I.hok.fresh (Nat.le_succ _))⟩
theorem dpl_at {K : PySem.W.Frag} {H : Hp} : ∀ {xs : List V} {ds : List PyData} {i : Nat} {v : V}, DpAll K H xs ds → xs[i]? = some v → ∃ d, ds[i]? = some d ∧ Dp K H v d
  | _, _, i, _, .nil, e => by simp at e
  | _, _, 0, _, .cons a _, e => by simp at e; subst e; exact ⟨_, rfl, a⟩
  | _, _, i + 1, v, .cons _ t, e => by
    obtain ⟨d, h1, h2⟩ := dpl_at (i := i) (v := v) t (by simpa using e)
    exact ⟨d, by simpa using h1, h2⟩
theorem vals_at : ∀ {xs : List V} {us : List Value} {i : Nat} {u : Value}, Vals xs us → us[i]? = some u → ∃ v, xs[i]? = some v ∧ RelV v u
  | _, _, i, _, .nil, e => by simp at e
  | _, _, 0, _, .cons a _, e => by simp at e; subst e; exact ⟨_, rfl, a⟩
  | _, _, i + 1, v, .cons _ t, e => by
    obtain ⟨d, h1, h2⟩ := vals_at (i := i) (u := v) t (by simpa using e)
    exact ⟨d, by simpa using h1, h2⟩
theorem cr_minG {X : Cx} (hc : X.calm = true) (hu : X.A.units + 64 < cLine) : CallR X (.builtin "min") (rMinG X.K) := by
  intro pins s σ H vs us Q I r h
  obtain ⟨a, xs, d, ds, rfl, hs, hd, hal, hdp, q⟩ := h
  obtain ⟨its, rv, hl, hz⟩ := I.list hs
  rw [Vals.ref1 r]
  obtain ⟨as, hr⟩ := Dp.readsAll I _ _ its hd rv
  refine PySem.W.min_list_data (I.ok.hd hc) hl.isList (by simpa using hr) hal (by omega) fun i v h' tk bs hi hm hk => ?_
  have hi : its[i]? = some v := by simpa using hi
  obtain ⟨x, hx, rx⟩ := vals_at rv hi
  obtain ⟨e, he, de⟩ := dpl_at hd hx
  have I' : Inv X pins σ H { s with heap := h', toks := tk } := I.kept hk
  obtain ⟨as', re⟩ := Dp.reads I' e x v de rx
  have ee : e = PySem.W.minD d ds := (PySem.Reads.unique re _ _ hm).1
  subst ee
  exact ⟨x, H, I', rx, q i x hx he⟩
/-! ### upon data with an order -/
section
variable {α : Type} [DecidableEq α] [DatumOrd α]
/-- x is no greater than y -/
def leO (x y : α) : Bool := !DatumOrd.lt y x
def sortO (xs : List α) : List α := xs.mergeSort leO
theorem dataLe_O (x y : α) : dataLe false Datum.toD x y = leO x y := by
  show (!PySem.W.dataLt (Datum.toD y) (Datum.toD x)) = _
  rw [DatumOrd.lt_eq]
  all_goals rfl
variable {K : PySem.W.Frag} {B : Hp} {env : Env} {ta : TA} {enc : α → D}
theorem okd_of {n : Nat} {xs : List α} (h : ∀ x ∈ xs, Okd n (enc x)) : ∀ d ∈ xs.map enc, Okd n d := fun d hd => by
  obtain ⟨x, hx, rfl⟩ := List.mem_map.mp hd
  exact h x hx
/-- sorted(xs) -/
theorem ev_sorted {n : Nat} {xs : List α} (hp : ∀ x : α, py (enc x) = Datum.toD x) (ho : ∀ x ∈ xs, Okd n (enc x)) (hn : n ≤ 60) (hk : (∀ x : α, ∃ d r, Datum.toD x = .tuple (d :: r)) ∨ ∀ x : α, ∀ ds, Datum.toD x ≠ .tuple ds)
    (h : EvA K B ta env [.ob (.lst (xs.map enc))]) : Ev K B (tCB (rSortG K) ta) env (.nw (oM (.lst ((sortO xs).map enc)))) :=
  ev_cb h fun B F H vs k ⟨H0, hv⟩ Q q => by
    cases hv with
    | cons hv hn2 =>
      cases hn2
      obtain ⟨a, ys, rfl, e, r⟩ := hv
      -- the pairs of values and data
      have key : ∀ {zs : List α} {ws : List V}, RpL K F ws (zs.map enc) → (∀ x ∈ zs, Okd n (enc x)) → ∃ ps : List (V × α), ps.map Prod.fst = ws ∧ ps.map Prod.snd = zs ∧ ∀ p ∈ ps, Rp K F p.1 (enc p.2) ∧ Okd n (enc p.2) := by
        intro zs
        induction zs with
        | nil => intro ws r _; cases r; exact ⟨[], rfl, rfl, fun p z => nomatch z⟩
        | cons z zs ih =>
          intro ws r ok
          cases r with
          | cons a r =>
            obtain ⟨ps, e1, e2, e3⟩ := ih r fun x hx => ok x (List.mem_cons_of_mem _ hx)
            refine ⟨(_, z) :: ps, by rw [List.map_cons, e1], by rw [List.map_cons, e2], fun p hp => ?_⟩
            rcases List.mem_cons.mp hp with rfl | hp
            · exact ⟨a, ok z List.mem_cons_self⟩
            · exact e3 p hp
      obtain ⟨ps, e1, e2, e3⟩ := key r ho
      have em : (ps.map fun p => (p.1, (Datum.toD p.2 : PyData))).map Prod.fst = ys := by
        rw [List.map_map, ← e1]
        all_goals rfl
      have es : (ps.map fun p => (p.1, (Datum.toD p.2 : PyData))).map Prod.snd = xs.map Datum.toD := by
        rw [List.map_map, ← e2, List.map_map]
        all_goals rfl
      refine ⟨a, ps.map fun p => (p.1, Datum.toD p.2), rfl, by rw [em]; exact .inl (.inl e), fun b hb => ?_, ?_, ?_, fun b hb => ?_, fun p hp0 => ?_⟩
      · obtain ⟨p, hp', rfl⟩ := List.mem_map.mp hb
        obtain ⟨r1, o1⟩ := e3 p hp'
        show Dp K H p.1 (Datum.toD p.2)
        rw [← hp]
        exact dp_mono k (rp_dp o1 r1)
      · rw [es]
        intro d hd d' hd'
        obtain ⟨x, _, rfl⟩ := List.mem_map.mp hd
        obtain ⟨y, _, rfl⟩ := List.mem_map.mp hd'
        exact DatumOrd.alike x y
      · rw [es]
        rcases hk with hk | hk
        · refine .inl fun d hd => ?_
          obtain ⟨x, _, rfl⟩ := List.mem_map.mp hd
          exact hk x
        · refine .inr fun d hd => ?_
          obtain ⟨x, _, rfl⟩ := List.mem_map.mp hd
          exact ⟨DatumOrd.notNone x, hk x⟩
      · obtain ⟨p, hp', rfl⟩ := List.mem_map.mp hb
        obtain ⟨_, o1⟩ := e3 p hp'
        show (Datum.toD p.2 : PyData).depth ≤ 60
        rw [← hp]
        exact Nat.le_trans (okd_py o1).2 hn
      · have s1 : (ps.map fun p => (p.1, (Datum.toD p.2 : PyData))).mergeSort (dataLe false Prod.snd) = (ps.mergeSort fun p q => leO p.2 q.2).map fun p => (p.1, Datum.toD p.2) := by
          refine (PySem.W.sort_maps _ fun x _ y _ => ?_).symm
          exact (dataLe_O x.2 y.2).symm
        have s2 : (ps.mergeSort fun p q => leO p.2 q.2).map Prod.snd = sortO xs := by
          rw [← e2]
          exact PySem.W.sort_maps _ fun x _ y _ => rfl
        have s3 : ∀ p ∈ (ps.mergeSort fun p q => leO p.2 q.2), Rp K F p.1 (enc p.2) := fun p hp' => (e3 p (List.mem_mergeSort.mp hp')).1
        have back : ∀ {qs : List (V × α)}, (∀ p ∈ qs, Rp K F p.1 (enc p.2)) → RpL K F (qs.map Prod.fst) ((qs.map Prod.snd).map enc) := by
          intro qs
          induction qs with
          | nil => intro _; exact .nil
          | cons z zs ih => intro hh; exact .cons (hh z List.mem_cons_self) (ih fun x hx => hh x (List.mem_cons_of_mem _ hx))
        have bk := back s3
        rw [s2] at bk
        refine q _ F _ (Gr.new k hp0) ⟨cell p (.lst _), fun x u z => ?_, fun x u z => ?_, fun x u z => ?_, p, _, rfl, upd_same, bk⟩
        · obtain ⟨rfl, rfl⟩ := of_cell z
          refine ⟨?_, nx_lst⟩
          rw [upd_same, s1, List.map_map]
          all_goals rfl
        · obtain ⟨rfl, rfl⟩ := of_cell z
          exact k.free hp0
        · obtain ⟨rfl, rfl⟩ := of_cell z
          exact Fr.of hp0
/-- min(xs) -/
theorem ev_min {n : Nat} {x : α} {xs : List α} (hp : ∀ x : α, py (enc x) = Datum.toD x) (ho : ∀ z ∈ x :: xs, Okd n (enc z)) (hn : n ≤ 60)
    (h : EvA K B ta env [.ob (.lst ((x :: xs).map enc))]) : Ev K B (tCB (rMinG K) ta) env (.im (enc (PySem.W.minOf x xs))) :=
  ev_cb h fun B F H vs k ⟨H0, hv⟩ Q q => by
    cases hv with
    | cons hv hn2 =>
      cases hn2
      obtain ⟨a, ys, rfl, e, r⟩ := hv
      have ep : pyL ((x :: xs).map enc) = (x :: xs).map Datum.toD := by
        have : ∀ zs : List α, pyL (zs.map enc) = zs.map Datum.toD := by
          intro zs
          induction zs with
          | nil => simp [pyL]
          | cons z zs ih => simp [pyL, hp, ih]
        exact this _
      have hd := dpl_mono k (rpl_dp (okd_of ho) r)
      rw [ep] at hd
      refine ⟨a, ys, Datum.toD x, xs.map Datum.toD, rfl, .inl (.inl e), hd, ?_, ?_, fun i v hi hm => ?_⟩
      · exact PySem.W.alikeAll_datum (x :: xs)
      · have : ∀ zs : List α, (∀ z ∈ zs, Okd n (enc z)) → PyData.depthAll (zs.map Datum.toD) ≤ n := by
          intro zs
          induction zs with
          | nil => intro _; exact Nat.zero_le _
          | cons z zs ih =>
            intro hh
            have h1 := (okd_py (hh z List.mem_cons_self)).2
            rw [hp] at h1
            have h2 := ih fun y hy => hh y (List.mem_cons_of_mem _ hy)
            simp only [List.map_cons, PyData.depthAll]
            omega
        exact Nat.le_trans (this (x :: xs) ho) hn
      · obtain ⟨dd, hdd, rv⟩ := r.getV hi
        rw [List.getElem?_map] at hdd
        obtain ⟨z, hz, rfl⟩ := Option.map_eq_some_iff.mp hdd
        rw [PySem.W.minD_map, ← List.map_cons, List.getElem?_map, hz] at hm
        have e2 : (Datum.toD z : PyData) = Datum.toD (PySem.W.minOf x xs) := Option.some.inj hm
        have e3 : z = PySem.W.minOf x xs := by
          have w1 := Datum.eqv z (PySem.W.minOf x xs)
          have w2 := Datum.eqv (PySem.W.minOf x xs) (PySem.W.minOf x xs)
          rw [e2] at w1
          rw [w2, decide_eq_true rfl] at w1
          exact of_decide_eq_true w1.symm
        rw [e3] at rv
        exact q _ F H (Gr.refl k) rv
end
end NM
/-! Calls and their promises, things of one's own that are written, walks of dicts, isinstance. -/
namespace NM
open PySem PySem.Spec PyProof.Rows L2
variable [Tbs]

/-! ### promises -/
inductive Res where
  | ok (r : Vl) | ex (C : Addr)
/-- the promise by a relation of what is handed in and what comes back -/
def spX (K : PySem.W.Frag) (S : List Vl → Res → Prop) (n : Nat) : Sp := fun vs H Q E => ∃ (F : Hp) (rs : List Vl) (res : Res), vs.length = n ∧ Kn F H ∧ LamX.Tabs Tbs.T H ∧ VlL K H H F H vs rs ∧ S rs res ∧ (match res with
  | .ok r => ∀ v F' H', Gr F F' H H' → VlOk K H H F' H' v r → Q v H'
  | .ex C => ∀ F' H', Gr F F' H H' → E (.ref C) none H')
/-- how what is handed in stands in the slots -/
def toSl : Vl → Sl
  | .im d => .im d
  | .lo o => .br o
  | .br o => .br o
  | .nw _ => .un
/-- frozen, or looked at -/
def Flat : Vl → Prop
  | .im _ => True
  | .lo _ => True
  | _ => False
/-- what comes back: frozen, or new -/
def Back : Vl → Prop
  | .im _ => True
  | .nw _ => True
  | _ => False
section
variable {K : PySem.W.Frag} {B B' H0 H0' F H : Hp}
theorem VlOk.flat {v : V} {r : Vl} (f : Flat r) (h : VlOk K B H0 F H v r) : VlOk K B' H0' F H v r := by
  cases r with
  | im d => exact h
  | lo o => exact h
  | nw o => exact f.elim
  | br o => exact f.elim
theorem VlL.flat : ∀ {vs : List V} {rs : List Vl}, (∀ r ∈ rs, Flat r) → VlL K B H0 F H vs rs → VlL K B' H0' F H vs rs
  | _, _, _, .nil => .nil
  | _, _, f, .cons a b => .cons (a.flat (f _ List.mem_cons_self)) (VlL.flat (fun r hr => f r (List.mem_cons_of_mem _ hr)) b)
theorem VlOk.back' {v : V} {r : Vl} (f : Back r) (h : VlOk K B H0 F H v r) : VlOk K B' H0 F H v r := by
  cases r with
  | im d => exact h
  | nw o => exact h
  | lo o => exact f.elim
  | br o => exact f.elim
end
section
variable {K : PySem.W.Frag} {B : Hp} {env : Env} {W : WX} {P : Out → Prop} {t : TA} {rs : List Vl} {r : Vl} {S : List Vl → Res → Prop} {n : Nat} {E : XK}
/-- a call that comes back -/
theorem ev_call (h : EvA K B t env rs) (f : ∀ r ∈ rs, Flat r) (s : S rs (.ok r)) (b : Back r) (hn : rs.length = n := by rfl) : Ev K B (tCall (spX K S n) [] E t) env r := fun F H σ R Q q =>
  h F H σ R _ fun vs F' H' g x => by
    show spX K S n (vs ++ []) H' Q E
    rw [List.append_nil]
    refine ⟨F', rs, .ok r, by rw [x.length]; exact hn, g.kn, (R.bn.step g).tb, x.flat f, s, fun v F2 H2 g2 y => q v F2 H2 (g.trans g2) ((y.back' b).back g.mo)⟩
/-- the end of a call that may raise: what is wished of it -/
def callP (P : Vl → Prop) (X : Addr → Prop) : Res → Prop
  | .ok r => Back r ∧ P r
  | .ex C => X C
/-- an expression that may raise -/
def EvX (K : PySem.W.Frag) (B : Hp) (W : WX) (te : TE) (env : Env) (res : Res) : Prop :=
  ∀ F H σ, RelE K B F H σ env → ∀ Q : VK, (match res with
    | .ok r => ∀ v F' H', Gr F F' H H' → VlOk K B H F' H' v r → Q v H'
    | .ex C => ∀ F' H', Gr F F' H H' → W (.ref C) none σ H') → te σ H Q → te σ H Q
theorem sx_call {res : Res} (h : EvA K B t env rs) (f : ∀ r ∈ rs, Flat r) (s : S rs res) (p : callP (fun r => P (.nx env)) (fun C => P (.ex C)) res) (hn : rs.length = n := by rfl) : Sx K B W (tDrop (tCallS (spX K S n) (WE W) t)) env P := fun H0 F0 F H σ R D q =>
  h F H σ R.e _ fun vs F' H' g x => by
    have R' := R.step g
    refine ⟨F', rs, res, by rw [x.length]; exact hn, g.kn, (R'.e.bn).tb, x.flat f, s, ?_⟩
    cases res with
    | ok r => exact fun v F2 H2 g2 _ => q _ p.2 F2 H2 σ (R'.step g2)
    | ex C => exact fun F2 H2 g2 => (show _ from let ⟨Os, R'⟩ := R'; q _ p F2 H2 σ (R'.gr.trans g2))
theorem sx_asgCall {res : Res} {i : Nat} (h : EvA K B t env rs) (f : ∀ r ∈ rs, Flat r) (s : S rs res)
    (p : callP (fun r => match r with | .im d => P (.nx (env.set i (.im d))) | .nw o => P (.nx (env.set i (.ow o))) | _ => True) (fun C => P (.ex C)) res) (hn : rs.length = n := by rfl) : Sx K B W (tAsg (tCallS (spX K S n) (WE W) t) (gName i)) env P := fun H0 F0 F H σ R D q =>
  h F H σ R.e _ fun vs F' H' g x => by
    have R' := R.step g
    refine ⟨F', rs, res, by rw [x.length]; exact hn, g.kn, (R'.e.bn).tb, x.flat f, s, ?_⟩
    cases res with
    | ok r =>
      intro v F2 H2 g2 y
      obtain ⟨b, p⟩ := p
      cases r with
      | im d => exact q _ p F2 H2 _ ((R'.step g2).setI y)
      | nw o => exact q _ p F2 H2 _ (R'.setW (B := B) g2 y)
      | lo o => exact b.elim
      | br o => exact b.elim
    | ex C => exact fun F2 H2 g2 => (show _ from let ⟨Os, R'⟩ := R'; q _ p F2 H2 σ (R'.gr.trans g2))
theorem sx_retCall {res : Res} (h : EvA K B t env rs) (f : ∀ r ∈ rs, Flat r) (s : S rs res) (p : callP (fun r => P (.rt r)) (fun C => P (.ex C)) res) (hn : rs.length = n := by rfl) : Sx K B W (tRet (tCallS (spX K S n) (WE W) t)) env P := fun H0 F0 F H σ R D q =>
  h F H σ R.e _ fun vs F' H' g x => by
    obtain ⟨Os, R'⟩ := R.step g
    refine ⟨F', rs, res, by rw [x.length]; exact hn, g.kn, R'.e.bn.tb, x.flat f, s, ?_⟩
    cases res with
    | ok r =>
      intro v F2 H2 g2 y
      obtain ⟨b, p⟩ := p
      have g3 := R'.gr.trans g2
      cases r with
      | im d => exact q _ p F2 H2 v g3 y
      | nw o => exact q _ p F2 H2 v g3 ((VlOk.back' (B' := B) (r := .nw o) trivial y).back R'.gr.mo)
      | lo o => exact b.elim
      | br o => exact b.elim
    | ex C => exact fun F2 H2 g2 => q _ p F2 H2 σ (R'.gr.trans g2)
/-- raise C(..) -/
theorem sx_raise {C : Addr} (p : P (.ex C)) : Sx K B W (fun _ σ H => (fun σ H (Q : XK) => Q (.ref C) none H) σ H fun cls d H' => W cls d σ H') env P := fun H0 F0 F H σ R D q => by
  obtain ⟨Os, R⟩ := R
  exact q _ p F H σ R.gr
end
/-! ### a def, by its body -/
/-- the ends that a promise takes -/
def endP (res : Res) : Out → Prop
  | .rt r => res = .ok r ∧ Back r
  | .nx _ => res = .ok (.im .non)
  | .ex C => res = .ex C
  | _ => False
/-- a function x of the module that keeps the promise sp -/
structure FnAt (P : Program) (w : World) (K : PySem.W.Frag) (mg : Str → Option Value) (base : Heap) (k : Nat) (x : Str) (ps : List Str) (sp : Sp) : Prop where
  ex : ∃ (f : Addr) (fd : FuncData), mg x = some (.ref f) ∧ PySem.W.keepIn K (.ref f) = true ∧ Binds K fd ps [] ∧ FnOk P w K mg base (L2N.CX P w) k f fd ps sp
theorem passL {X : Cx} : Passes (L2N.CX X.prog X.w) X E0 := fun _ _ _ _ _ _ _ h => by
  obtain ⟨_, _, _, _, _, _, _, _, _, _, _, _, z⟩ := h
  exact z.elim
section
variable {X : Cx} {k : Nat} {x : Str} {ps : List Str} {sp : Sp} {e : Expr} {es : List Expr} {t : TA} {p pos : Pos} {W : WX}
theorem pe_fn {j : Nat} (F : FnAt X.prog X.w X.K X.mg X.base k x ps sp) (hr : Room j X.A) (hk : k ≤ j) (hg : Gl X x) (ha : PA X (e :: es) t)
    (hdb : (x == ("__debug__" : Str)) = false := by decide) (he : starEach (e :: es) X.env = (false, eval e X.env) :: starEach es X.env := by rfl) (hpl : (backTo pos (starEach es X.env)).any (·.1) = false := by rfl) :
    PE X (.Call (.Name x p) (e :: es) [] pos) (tCall sp [] E0 t) := by
  obtain ⟨f, fd, h1, h2, h3, h4⟩ := F.ex
  exact pe_call h4 (hr.mono hk) hg h1 h2 h3 .nil passL ha hdb he hpl
theorem pe_fnS {j : Nat} (F : FnAt X.prog X.w X.K X.mg X.base k x ps sp) (hr : Room j X.A) (hk : k ≤ j) (hg : Gl X x) (tk : L2N.Takes X W) (ha : PA X (e :: es) t)
    (hdb : (x == ("__debug__" : Str)) = false := by decide) (he : starEach (e :: es) X.env = (false, eval e X.env) :: starEach es X.env := by rfl) (hpl : (backTo pos (starEach es X.env)).any (·.1) = false := by rfl) :
    PE X (.Call (.Name x p) (e :: es) [] pos) (tCallS sp (WE W) t) := by
  obtain ⟨f, fd, h1, h2, h3, h4⟩ := F.ex
  exact pe_callS h4 (hr.mono hk) hg h1 h2 h3 (fun σ => L2N.passAt tk σ) ha hdb he hpl
end
theorem PS.nox {X : Cx} {st : Stmt} {t : TS} (h : PS X.nox st t) : PS X st t := ⟨fun pins s σ H D I hw =>
  wpAny_mono (h.run pins s σ H D (I.wish _) hw) (fun _ _ q => q.unwish) fun _ _ z => False.elim z⟩
theorem start_rel {K : PySem.W.Frag} {F H : Hp} {N ps : List Str} {vs : List V} {rs : List Vl} (k : Kn F H) (tb : LamX.Tabs Tbs.T H) (r : VlL K H H F H vs rs) (hl : vs.length = ps.length) (hN : ps.length ≤ N.length) : RelS K H H F F H (L2.start N vs) (rs.map toSl ++ List.replicate (N.length - rs.length) .un) := by
  refine ⟨fun _ _ => none, ⟨Gr.refl k, ⟨Kn.refl H, tb⟩, ?_, fun i s e => ?_, (fun _ _ _ _ _ z => nomatch z), (fun _ _ _ z => nomatch z), (fun _ _ _ z => nomatch z), (fun _ _ _ z => nomatch z)⟩⟩
  · unfold L2.start
    rw [List.length_append, List.length_append, List.length_map, List.length_map, List.length_replicate, List.length_replicate, r.length]
  · have key : ∀ {vs : List V} {rs : List Vl} {i : Nat} {q : Vl}, VlL K H H F H vs rs → rs[i]? = some q → ∃ v, vs[i]? = some v ∧ VlOk K H H F H v q := by
      intro vs rs i q r
      induction r generalizing i with
      | nil => intro e; simp at e
      | cons a b ih =>
        intro e
        cases i with
        | zero => simp at e; subst e; exact ⟨_, rfl, a⟩
        | succ i => obtain ⟨v, h1, h2⟩ := ih (by simpa using e); exact ⟨v, by simpa using h1, h2⟩
    by_cases hi : i < rs.length
    · rw [List.getElem?_append_left (by rw [List.length_map]; exact hi), List.getElem?_map] at e
      obtain ⟨q, hq, rfl⟩ := Option.map_eq_some_iff.mp e
      obtain ⟨v, hv, x⟩ := key r hq
      have hs : (L2.start N vs)[i]? = some (some v) := by
        unfold L2.start
        rw [List.getElem?_append_left (by rw [List.length_map, r.length]; exact hi), List.getElem?_map, hv] <;> rfl
      cases q with
      | im d => exact ⟨v, hs, x⟩
      | lo o => exact ⟨v, hs, x⟩
      | br o => exact ⟨v, hs, x⟩
      | nw o => trivial
    · rw [List.getElem?_append_right (by rw [List.length_map]; omega), List.getElem?_replicate] at e
      split at e
      · cases e; trivial
      · cases e
section
variable {K : PySem.W.Frag} {B : Hp} {env : Env} {W : WX} {te : TE} {d d' : D} {o : Ow} {C : Addr} {i : Nat} {P : Out → Prop}
/-- the end of a def: return .. (p: ⟨rfl, trivial⟩) -/
theorem sx_retE (p : P (.rt (.im d))) (h : Ev K B te env (.im d')) (e : d' = d) : Sx K B W (tRet te) env P := sx_ret h (by rw [e]; exact p)
theorem sx_retWE {ds ds' : List D} (p : P (.rt (.nw (oM (.lst ds))))) (h : Ev K B te env (.nw (oM (.lst ds')))) (e : ds' = ds) : Sx K B W (tRet te) env P := sx_retW h (by rw [e]; exact p)
end
section
variable {P : Program} {w : World} {K : PySem.W.Frag} {mg : Str → Option Value} {base : Heap}
/-- THE RULE for a def: its body's term, and what its reading does with data -/
theorem fn_okC {name qual : Str} {params : Arguments} {body : List Stmt} {scope : Scope} {dV kV doc pm cdv ct oc : Value} {an od : Option Addr} {osl : Array (Option Value)} {f : Addr} {N ps : List Str} {k : Nat} {S : List Vl → Res → Prop}
    (lk : K.lookup f = some ⟨oc, od, .func (PySem.W.fnOf name qual params body scope dV kV doc pm an cdv ct), osl⟩) (hcd : PySem.W.codeIn K cdv qual = true) (Sc : FnScope N ps scope) (hN : ps.length ≤ N.length)
    (hbody : ∀ (A : Around) (outer : List PySem.Env) (s : Shared) (H : Hp) (E : XK), Room k (A.deeper (envOfC qual scope s.heap.objs.size f cdv)) →
      ∃ t, PSs (cxOf (L2N.CX P w) P w K mg base N qual scope f cdv A outer s H E) body t ∧
        ∀ rs res, rs.length = ps.length → S rs res → ∀ B, Sx K B (fun cls d _ H => E cls d H) t (rs.map toSl ++ List.replicate (N.length - rs.length) .un) (endP res)) :
    FnOk P w K mg base (L2N.CX P w) (k + 1) f (PySem.W.fnOf name qual params body scope dV kV doc pm an cdv ct) ps (spX K S ps.length) := by
  refine fn_of lk hcd Sc (fun vs H Q E h => ?_) (fun A outer s H vs Q E hr h => ?_)
  · obtain ⟨_, _, _, h, _⟩ := h
    exact h
  · obtain ⟨t, ht, hx⟩ := hbody A outer s H E hr
    obtain ⟨F0, rs, res, hl, k0, t0, r0, s0, q⟩ := h
    refine ⟨t, ht, hx rs res (by rw [← r0.length]; exact hl) s0 H H F0 F0 H _ (start_rel k0 t0 r0 hl hN) _ fun o p => ?_⟩
    cases o with
    | nx e =>
      obtain rfl := p
      intro F H' σ R
      obtain ⟨Os, R⟩ := R
      exact q .non F H' R.gr .non
    | rt r =>
      obtain ⟨rfl, b⟩ := p
      cases r with
      | im d => exact fun F H' v g y => q v F H' g y
      | nw o => exact fun F H' v g y => q v F H' g y
      | lo o => exact b.elim
      | br o => exact b.elim
    | ex C =>
      obtain rfl := p
      exact fun F H' σ g => q F H' g
    | bk e => exact p.elim
    | ct e => exact p.elim
theorem fn_ok {x qual : Str} {st : Stmt} {f : Addr} {fd : FuncData} {N ps : List Str} {k : Nat} {S : List Vl → Res → Prop} (F : FunD K x qual (defArgs st) (defBody st) (defScope st) [] [] f fd) (Sc : FnScope N ps (defScope st)) (hm : mg x = some (.ref f))
    (hb : ∀ (kV doc pm : Value) (an : Option Addr) (cdv ct : Value) (us : List Value), us.length = ps.length → bindArgs (PySem.W.fnOf x qual (defArgs st) (defBody st) (defScope st) .none kV doc pm an cdv ct) ⟨us, []⟩ = pure (ps.zip us))
    (hN : ps.length ≤ N.length)
    (hbody : ∀ (cdv : Value) (A : Around) (outer : List PySem.Env) (s : Shared) (H : Hp) (E : XK), Room k (A.deeper (envOfC qual (defScope st) s.heap.objs.size f cdv)) →
      ∃ t, PSs (cxOf (L2N.CX P w) P w K mg base N qual (defScope st) f cdv A outer s H E) (defBody st) t ∧
        ∀ rs res, rs.length = ps.length → S rs res → ∀ B, Sx K B (fun cls d _ H => E cls d H) t (rs.map toSl ++ List.replicate (N.length - rs.length) .un) (endP res)) :
    FnAt P w K mg base (k + 1) x ps (spX K S ps.length) := by
  refine ⟨f, fd, hm, F.kp, F.bindsN hb, ?_⟩
  obtain ⟨oc, od, dV, kV, doc, pm, an, cdv, ct, osl, rfl, lk, hcd, _, _⟩ := F.ex
  exact fn_okC lk hcd Sc hN (hbody cdv)
end

/-! ### things of one's own, written -/
section
variable {K : PySem.W.Frag} {B : Hp} {env : Env} {W : WX} {P : Out → Prop} {te ty : TE} {d : D} {ds es : List D} {kvs : List (Str × D)} {i j : Nat}
theorem cell_at {D : Addr} {o : HO} : cell D o D = some o := upd_same
theorem sx_append (hi : env[i]? = some (.ow (oM (.lst ds)))) (h : Ev K B te env (.im d)) (hl : ds.length < sizeLine) (p : P (.nx (env.set i (.ow (oM (.lst (ds ++ [d]))))))) :
    Sx K B W (tDrop (tBM K "list" rAppend (tVar i) (tCons te tNil))) env P := fun H0 F0 F H σ R D q => by
  obtain ⟨Os, R⟩ := R
  obtain ⟨v, ev, l, xs, rfl, hO, r⟩ := R.sl i _ hi
  have hH := (R.oh i _ _ hO).1
  refine ⟨.ref l, ev, .inl ⟨rfl, xs, .inl (.inl hH)⟩, ?_⟩
  refine h F H σ R.e _ fun y F' H' g ry => ?_
  have R' := R.step g
  refine ⟨l, xs, y, rfl, rfl, g.hh _ _ nt_lst hH, by rw [r.length]; exact hl, q _ p F' _ σ ⟨_, R'.write (O' := upd (Os i) l (.lst (xs ++ [y]))) (List.getElem?_eq_some_iff.mp hi).1 ev (fun a ha => ?_) (fun a u e => ?_) (fun a u e => ?_) ?_⟩⟩
  · exact upd_ne (fun z => by rw [z, hO] at ha; cases ha)
  · by_cases z : a = l
    · exact ⟨_, by rw [z]; exact hO⟩
    · rw [upd_ne z] at e; exact ⟨_, e⟩
  · by_cases z : a = l
    · rw [z, upd_same] at e
      rw [z, upd_same]
      cases e
      exact ⟨rfl, by first | exact nx_lst | exact nx_dK⟩
    · rw [upd_ne z] at e ⊢
      exact R'.oh i a u e
  · exact ⟨l, _, rfl, upd_same, (r.mono g.fk).app (.cons ry .nil)⟩
theorem sx_extend (hi : env[i]? = some (.ow (oM (.lst ds)))) (h : Ev K B te env (.ob (.lst es))) (hl : ds.length + es.length ≤ sizeLine) (p : P (.nx (env.set i (.ow (oM (.lst (ds ++ es))))))) :
    Sx K B W (tDrop (tBM K "list" rExtend (tVar i) (tCons te tNil))) env P := fun H0 F0 F H σ R D q => by
  obtain ⟨Os, R⟩ := R
  obtain ⟨v, ev, l, xs, rfl, hO, r⟩ := R.sl i _ hi
  have hH := (R.oh i _ _ hO).1
  refine ⟨.ref l, ev, .inl ⟨rfl, xs, .inl (.inl hH)⟩, ?_⟩
  refine h F H σ R.e _ fun y F' H' g ry => ?_
  have R' := R.step g
  obtain ⟨l', ys, rfl, hy, r'⟩ := ry
  refine ⟨l, l', xs, ys, rfl, rfl, g.hh _ _ nt_lst hH, hy, by rw [r.length, r'.length]; exact hl, q _ p F' _ σ ⟨_, R'.write (O' := upd (Os i) l (.lst (xs ++ ys))) (List.getElem?_eq_some_iff.mp hi).1 ev (fun a ha => ?_) (fun a u e => ?_) (fun a u e => ?_) ?_⟩⟩
  · exact upd_ne (fun z => by rw [z, hO] at ha; cases ha)
  · by_cases z : a = l
    · exact ⟨_, by rw [z]; exact hO⟩
    · rw [upd_ne z] at e; exact ⟨_, e⟩
  · by_cases z : a = l
    · rw [z, upd_same] at e
      rw [z, upd_same]
      cases e
      exact ⟨rfl, by first | exact nx_lst | exact nx_dK⟩
    · rw [upd_ne z] at e ⊢
      exact R'.oh i a u e
  · exact ⟨l, _, rfl, upd_same, (r.mono g.fk).app r'⟩
/-- an expression that writes a thing of one's own -/
def EvS (K : PySem.W.Frag) (B : Hp) (te : TE) (env : Env) (d : D) (env' : Env) : Prop :=
  ∀ H0 F0 F H σ, RelS K B H0 F0 F H σ env → ∀ Q : VK, (∀ v F' H', RelS K B H0 F0 F' H' σ env' → Rp K F' v d → Q v H') → te σ H Q
theorem sx_asgS {env' : Env} (h : EvS K B te env d env') (p : P (.nx (env'.set j (.im d)))) : Sx K B W (tAsg te (gName j)) env P := fun H0 F0 F H σ R D q =>
  h H0 F0 F H σ R _ fun v F' H' R' r => q _ p F' H' _ (R'.setI r)
theorem sx_dropS {env' : Env} (h : EvS K B te env d env') (p : P (.nx env')) : Sx K B W (tDrop te) env P := fun H0 F0 F H σ R D q =>
  h H0 F0 F H σ R _ fun v F' H' R' r => q _ p F' H' _ R'
/-- x.pop() -/
theorem es_pop (hi : env[i]? = some (.ow (oM (.lst (ds ++ [d]))))) : EvS K B (tBM0 K "list" rPop (tVar i)) env d (env.set i (.ow (oM (.lst ds)))) := fun H0 F0 F H σ R Q q => by
  obtain ⟨Os, R⟩ := R
  obtain ⟨v, ev, l, xs, rfl, hO, r⟩ := R.sl i _ hi
  have hH := (R.oh i _ _ hO).1
  have hlen := r.length
  rw [List.length_append, List.length_singleton] at hlen
  obtain ⟨y, hy, ry⟩ := r.get (i := ds.length) (d := d) (by simp)
  refine ⟨.ref l, ev, .inl ⟨rfl, xs, .inl (.inl hH)⟩, l, xs, y, rfl, rfl, hH, by rw [hlen]; exact hy, q y F _ ⟨_, R.write (O' := upd (Os i) l (.lst xs.dropLast)) (List.getElem?_eq_some_iff.mp hi).1 ev (fun a ha => ?_) (fun a u e => ?_) (fun a u e => ?_) ?_⟩ ry⟩
  · exact upd_ne (fun z => by rw [z, hO] at ha; cases ha)
  · by_cases z : a = l
    · exact ⟨_, by rw [z]; exact hO⟩
    · rw [upd_ne z] at e; exact ⟨_, e⟩
  · by_cases z : a = l
    · rw [z, upd_same] at e
      rw [z, upd_same]
      cases e
      exact ⟨rfl, by first | exact nx_lst | exact nx_dK⟩
    · rw [upd_ne z] at e ⊢
      exact R.oh i a u e
  · refine ⟨l, _, rfl, upd_same, ?_⟩
    have z := r.take ds.length
    rw [List.take_left] at z
    rw [List.dropLast_eq_take, hlen]
    exact z
/-- x.pop(k) -/
theorem es_popAt {k : Int} {m : Nat} (hi : env[i]? = some (.ow (oM (.lst ds)))) (h : Ev K B te env (.im (.int k))) (h1 : -(2 ^ 63) ≤ k) (h2 : k < 2 ^ 63) (hs : seqIndex? k ds.length = some m) (hd : ds[m]? = some d) :
    EvS K B (tBM K "list" rPopAt (tVar i) (tCons te tNil)) env d (env.set i (.ow (oM (.lst (ds.eraseIdx m))))) := fun H0 F0 F H σ R Q q => by
  obtain ⟨Os, R⟩ := R
  obtain ⟨v, ev, l, xs, rfl, hO, r⟩ := R.sl i _ hi
  have hH := (R.oh i _ _ hO).1
  obtain ⟨y, hy, ry⟩ := r.get hd
  refine ⟨.ref l, ev, .inl ⟨rfl, xs, .inl (.inl hH)⟩, ?_⟩
  refine h F H σ R.e _ fun z F' H' g rz => ?_
  obtain rfl := Rp.inv_int rz
  have R' := R.step g
  refine ⟨l, xs, k, m, y, rfl, rfl, g.hh _ _ nt_lst hH, h1, h2, by rw [r.length]; exact hs, hy, q y F' _ ⟨_, R'.write (O' := upd (Os i) l (.lst (xs.eraseIdx m))) (List.getElem?_eq_some_iff.mp hi).1 ev (fun a ha => ?_) (fun a u e => ?_) (fun a u e => ?_) ?_⟩ (ry.mono g.fk)⟩
  · exact upd_ne (fun z => by rw [z, hO] at ha; cases ha)
  · by_cases z : a = l
    · exact ⟨_, by rw [z]; exact hO⟩
    · rw [upd_ne z] at e; exact ⟨_, e⟩
  · by_cases z : a = l
    · rw [z, upd_same] at e
      rw [z, upd_same]
      cases e
      exact ⟨rfl, by first | exact nx_lst | exact nx_dK⟩
    · rw [upd_ne z] at e ⊢
      exact R'.oh i a u e
  · exact ⟨l, _, rfl, upd_same, (r.mono g.fk).eraseIdx m⟩
/-- d[k] = v, d a slot of one's own -/
theorem sx_dput {s : Str} (hi : env[i]? = some (.ow (oM (.dct kvs)))) (hv : Ev K B te env (.im d)) (hy : Ev K B ty env (.im (.str s))) (hl : kvs.length < sizeLine) (p : P (.nx (env.set i (.ow (oM (.dct (kput kvs s d))))))) :
    Sx K B W (sDPut (tVar i) ty te) env P := fun H0 F0 F H σ R D q =>
  hv F H σ R.e _ fun v F1 H1 g1 rv => by
    have R1 := R.step g1
    obtain ⟨Os, R1⟩ := R1
    obtain ⟨x, ev, l, ks, rfl, hO, r⟩ := R1.sl i _ hi
    refine ⟨.ref l, ev, ?_⟩
    refine hy F1 H1 σ R1.e _ fun y F2 H2 g2 ry => ?_
    obtain rfl := Rp.inv_str ry
    have R2 := R1.step g2
    have hH := (R2.oh i _ _ hO).1
    refine ⟨l, _, rfl, DPut.k (k := Sum.inr s) hH (by rw [r.length]; exact hl), q _ p F2 _ σ ⟨_, R2.write (O' := upd (Os i) l (.dK (putK ks (Sum.inr s) v))) (List.getElem?_eq_some_iff.mp hi).1 ev (fun a ha => ?_) (fun a u e => ?_) (fun a u e => ?_) ?_⟩⟩
    · exact upd_ne (fun z => by rw [z, hO] at ha; cases ha)
    · by_cases z : a = l
      · exact ⟨_, by rw [z]; exact hO⟩
      · rw [upd_ne z] at e; exact ⟨_, e⟩
    · by_cases z : a = l
      · rw [z, upd_same] at e
        rw [z, upd_same]
        cases e
        exact ⟨rfl, nx_dK⟩
      · rw [upd_ne z] at e ⊢
        exact R2.oh i a u e
    · exact ⟨l, _, rfl, upd_same, (r.mono g2.fk).put (Rp.mono g2.fk rv)⟩
/-- d.pop(k), k there -/
theorem es_dpop {s : Str} (hi : env[i]? = some (.ow (oM (.dct kvs)))) (hy : Ev K B ty env (.im (.str s))) (hk : kget kvs s = some d) : EvS K B (tDPop1 (tVar i) ty) env d (env.set i (.ow (oM (.dct (kdrop kvs s))))) := fun H0 F0 F H σ R Q q => by
  obtain ⟨Os, R⟩ := R
  obtain ⟨v, ev, l, ks, rfl, hO, r⟩ := R.sl i _ hi
  have hH := (R.oh i _ _ hO).1
  refine ⟨.ref l, ev, l, rfl, .inl ⟨ks, .inl hH⟩, ?_⟩
  refine hy F H σ R.e _ fun y F' H' g ry => ?_
  obtain rfl := Rp.inv_str ry
  have R' := R.step g
  obtain ⟨z, hz, rz⟩ := r.val hk
  refine ⟨ks, Sum.inr s, z, g.hh _ _ nt_dK hH, rfl, hz, q z F' _ ⟨_, R'.write (O' := upd (Os i) l (.dK (dropK ks (Sum.inr s)))) (List.getElem?_eq_some_iff.mp hi).1 ev (fun a ha => ?_) (fun a u e => ?_) (fun a u e => ?_) ?_⟩ (rz.mono g.fk)⟩
  · exact upd_ne (fun z => by rw [z, hO] at ha; cases ha)
  · by_cases z : a = l
    · exact ⟨_, by rw [z]; exact hO⟩
    · rw [upd_ne z] at e; exact ⟨_, e⟩
  · by_cases z : a = l
    · rw [z, upd_same] at e
      rw [z, upd_same]
      cases e
      exact ⟨rfl, by first | exact nx_lst | exact nx_dK⟩
    · rw [upd_ne z] at e ⊢
      exact R'.oh i a u e
  · exact ⟨l, _, rfl, upd_same, (r.mono g.fk).drop⟩
end
end NM
/-! Work within an except suite: a list's end, sum, a comprehension. -/
namespace NM
open PySem PySem.Spec PyProof.Rows L2
section
variable {prog : Program} {w : World} {A : Around} {E : Value → Shared → Prop} {s : Shared}
/-- the end of a list's walk while an exception is handled -/
theorem list_end_hot {it l x1 : Addr} {i : Nat} {items : Array Value} {Q : Option Value → Shared → Prop} (hot : HotX.HotAt A x1 s.heap) (hne : x1 ≠ it)
    (hit : s.heap.IsListIter it l i) (hl : s.heap.IsList l items) (hx : items[i]? = none)
    (hQ : ∀ h', Heap.ExtBut it s.heap h' → Q none { s with heap := h' }) : wpAny (model prog w) A (pyNext (.ref it)) Q E s := by
  obtain ⟨hh, o1, vs1, h1, d1, c1⟩ := hot
  obtain ⟨o, ho, hc, hd⟩ := id hit
  obtain ⟨ol, hol, _, nl, hdl⟩ := hl
  unfold pyNext
  apply wpAny_bind
  apply wpAny_attempt
  refine wpAny_callSpecial?_slot (name := Str.ofString "__next__") hit.typeIs slot_listiter_next ?_
  refine wpAny_call_entry slot_listiter_next hit.typeIs entry_listiter_next ?_ (args_listiter_next _)
  show wpAny _ _ (field (.ref it) 0 >>= _) _ _ s
  apply wpAny_bind
  refine wpAny_field ho hd (x := .ref l) rfl ?_
  show wpAny _ _ (if (Value.ref l == Value.none) = true then _ else _) _ _ s
  have nn : ¬ ((Value.ref l == Value.none) = true) := Bool.false_ne_true
  rw [if_neg nn]
  show wpAny _ _ (field (.ref it) 1 >>= _) _ _ s
  apply wpAny_bind
  refine wpAny_field ho hd (x := .int i 0) rfl ?_
  show wpAny _ _ (seqItems? (.ref l) >>= _) _ _ s
  apply wpAny_bind
  refine wpAny_seqItems hol hdl ?_
  simp only [Int.toNat_natCast, hx]
  apply wpAny_bind
  apply wpAny_rule
  apply wpAny_bind
  refine wpAny_setField ho hd (by simp) ?_
  have k1 : ∀ b u, b ≠ it → s.heap.get? b = some u → (s.heap.update it (Obj.mapFields (·.setIfInBounds 0 Value.none))).get? b = some u := fun b u n e => by
    rw [Heap.get?_update_other _ _ (Ne.symm n)]; exact e
  generalize s.heap.update it (Obj.mapFields (·.setIfInBounds 0 Value.none)) = g1 at k1 ⊢
  show wpAny _ _ (newExc (.type "StopIteration") [] >>= _) _ _ _
  apply wpAny_bind
  simp only [newExc, newTuple]
  apply wpAny_bind
  refine wpAny_newObj_type ?_ (by size_fits)
  refine wpAny_bind (m := firstArgMember _ _) ?_
  refine wpAny_of_eq (a := Value.none) (by first | rfl | (simp only [firstArgMember]; rfl)) ?_
  refine wpAny_newObj_type ?_ (by size_fits)
  have x1in := Heap.get?_push_of_some { cls := .type "StopIteration", data := .fields #[.ref g1.objs.size, .none, .none, .none, .bool false, .none] } (Heap.get?_push_of_some { cls := .type "tuple", data := .seq #[] } (k1 x1 _ hne h1))
  refine HotX.raiseNew_hot (x1 := x1) ⟨hh, o1, vs1, Heap.get?_push_of_some _ (Heap.get?_push_of_some _ (k1 x1 _ hne h1)), d1, c1⟩ ?_ (Heap.get?_push_size _ rfl) rfl ?_ ?_
  · exact Nat.ne_of_lt (Heap.lt_size (Heap.get?_push_of_some _ (k1 x1 _ hne h1)))
  · first | (simp; done) | (simp; omega) | (simp only [Array.size_append]; simp; omega)
  · apply wpAny_bind
    refine wpAny_isInstance (T := "StopIteration") (b := true) ⟨_, Heap.get?_update_self _ (Heap.get?_push_size _ rfl) rfl, rfl⟩ isSubtype_stop ?_
    apply wpAny_pure
    refine hQ _ fun b u n e => ?_
    have z := k1 b u n e
    rw [Heap.get?_update_other _ _ (Nat.ne_of_gt (Heap.lt_size (Heap.get?_push_of_some _ z)))]
    exact Heap.get?_push_of_some _ (Heap.get?_push_of_some _ z)
/-- a walk over a list while x1 is handled -/
theorem walksH {x1 : Addr} {o1 : Obj} {vs1 : Array Value} (hh : A.handled = some (.ref x1)) (d1 : o1.data = .fields vs1) (c1 : vs1[2]? = some .none) (I l : Addr) (hne : l ≠ I) (hx : x1 ≠ I) (items : Array Value) :
    Walks prog w A I [I, l, x1] [I] items.size (fun i v => items[i]? = some v) (fun i h => h.IsListIter I l i ∧ h.IsList l items ∧ h.get? x1 = some o1) where
  sub := fun b hb => by simp at hb; simp [hb]
  frame := fun i h h' st k => ⟨st.1.at fun o e => k I (by simp) o e, st.2.1.at fun o e => k l (by simp) o e, k x1 (by simp) _ st.2.2⟩
  item := fun i s Q E hi st hQ => by
    refine wpAny_pyNext_list_item st.1 st.2.1 (x := items[i]) (by simp [hi]) fun h' it' sb => ?_
    exact hQ _ h' s.toks (by simp [hi]) ⟨it', st.2.1.extBut sb.extBut hne, sb.extBut x1 o1 hx st.2.2⟩ fun b o hb e => sb.extBut b o (fun h => hb (by simp [h])) e
  done := fun s Q E st hQ => list_end_hot ⟨hh, o1, vs1, st.2.2, d1, c1⟩ hx st.1 st.2.1 (by simp) fun h' e' => hQ h' s.toks fun b o hb e => e' b o (fun h => hb (by simp [h])) e
  self := fun _ _ _ _ st hQ => wpAny_pyIter_listiter st.1 hQ
/-- sum(xs) there -/
theorem sumH {x1 l : Addr} {o1 : Obj} {vs1 : Array Value} {its : List Value} {ns : List Int} {Q : Value → Shared → Prop} (hh : A.handled = some (.ref x1)) (g1 : s.heap.get? x1 = some o1) (d1 : o1.data = .fields vs1) (c1 : vs1[2]? = some .none)
    (hl : s.heap.IsList l its.toArray) (hi : IntsAre its ns) (h : ∀ h' tk t', (∀ b o, s.heap.get? b = some o → h'.get? b = some o) → Q (.int ns.sum t') { s with heap := h', toks := tk }) :
    wpAny (model prog w) A (call (.builtin "sum") [.ref l]) Q E s := by
  obtain ⟨xs, e⟩ := hi.allInts.items
  have hn : numsOf (intItems xs).toList = ns := by rw [← e]; exact hi.numsOf
  rw [nums_intItems] at hn
  rw [e] at hl
  refine call_sum_walkG (iter_intList hl fun s₂ e2 st hfp hlI => ?_)
  subst e2
  have x1s : x1 < s.heap.objs.size := Heap.lt_size g1
  refine ⟨_, _, _, _, _, _, numAt xs, rfl, walksH (A := A.in1) hh d1 c1 _ l hlI (Nat.ne_of_lt x1s) (intItems xs), ⟨st.1, st.2, Heap.get?_push_of_some _ g1⟩, fun b hb => ?_, (fun _ _ => intItems_at), fun h' tk t' hk => ?_⟩
  · simp only [List.mem_cons, List.not_mem_nil, or_false] at hb
    rcases hb with rfl | rfl | rfl
    · exact hfp _ (by simp)
    · exact hfp _ (by simp)
    · exact Nat.lt_of_lt_of_le x1s (by first | (rw [Heap.size_push]; exact Nat.le_succ _) | omega)
  · have q := h h' tk t' (old_kept hk)
    rw [← hn] at q
    simpa [intItems, preSum_eq, List.take_of_length_le] using q
end
section
variable {X : Cx}
/-- [elt for tg in l], l a list, while p is handled -/
theorem pe_lcH {p : Addr × Obj} {elt tg l : Expr} {scope : Scope} {own : List (Str × Nat)} {pos : Pos} {g : TG} {te tl : TE} (hot : L2H.Hot1 X.A p) (hp : p ∈ X.pn) (hN : X.N.Nodup) (hl : PE X l tl) (ok : BlkOk X.N X.env.scope scope own)
    (hg : ∀ (s : Shared) (H : Hp) (C : Addr) (cl : List (Str × Addr)) (fp : List Addr), PG (X.blk s H scope (compEnvC scope cl C X.env) fp) tg g)
    (he : ∀ (s : Shared) (H : Hp) (C : Addr) (cl : List (Str × Addr)) (fp : List Addr), PE (X.blk s H scope (compEnvC scope cl C X.env) fp) elt te)
    (hs : ∀ x, foldedSetIterable l X.env x = pure x := by intro _; rfl) :
    PE X (.ListComp elt [⟨tg, l, [], 0⟩] scope pos) (tLc (iList X.K tl) g tYes te (own.map (·.2))) := by
  refine ⟨fun pins s σ H Q I h => ?_⟩
  obtain ⟨hh, v1, d1, c1⟩ := hot
  have free : ∀ y ∈ scope.names, y.2 = .free → ∃ c, X.env.cells.lookup y.1 = some c := fun y hy e => (ok.free y hy e).elim (fun k => I.ok.has _ (.inl k)) fun k => I.ok.has _ (.inr k)
  rw [eval_ListComp]
  refine wpAny_comprehension_free (use := none) rfl hs (closure_ok free) ok.kind (fun y hy e => by rw [ok.uniq y hy, e]) ?_
  refine thn (hl.run pins s σ H _ I h) fun v sA ⟨x, HA, IA, rx, a, ex, ⟨xs0, hq0⟩, q⟩ => ?_
  subst ex
  obtain rfl : v = Value.ref a := rx
  obtain ⟨its0, rv0, pl0, hz0⟩ := IA.list hq0
  refine wpAny_pyIter_list pl0.isList ?_
  -- the iterator
  generalize hit : sA.heap.objs.size = it
  have IB : Inv X pins σ HA { sA with heap := sA.heap.push { cls := .type "list_iterator", data := .fields #[.ref a, .int 0 0] } } := IA.kept (t' := sA.toks) fun b o e => Heap.get?_push_of_some _ e
  have itB : (sA.heap.push { cls := .type "list_iterator", data := .fields #[.ref a, .int 0 0] }).IsListIter it a 0 := by
    rw [← hit]
    exact ⟨_, Heap.get?_push_size _ rfl, rfl, rfl⟩
  have fB : FpOk X pins HA it := by
    rw [← hit]
    exact IA.fpOk (Nat.le_refl _) (IA.hok.fresh (Nat.le_refl _))
  generalize hsB : ({ sA with heap := sA.heap.push { cls := .type "list_iterator", data := .fields #[.ref a, .int 0 0] } } : Shared) = sB at IB ⊢
  have itB : sB.heap.IsListIter it a 0 := by rw [← hsB]; exact itB
  refine wpAny_newObj_type (newEnv_comp ?_) (by show 0 ≤ sizeLine; decide)
  generalize hD : sB.heap.objs.size = D
  obtain ⟨W, ⟨m0, w0⟩, turn⟩ := q D (IB.hok.fresh (Nat.le_of_eq hD))
  -- the new list
  generalize hsC : ({ sB with heap := sB.heap.push { cls := .type "list", data := .seq ([] : List Value).toArray } } : Shared) = sC
  have hC : sC.heap = sB.heap.push { cls := .type "list", data := .seq ([] : List Value).toArray } := by rw [← hsC]
  have IC : Inv X pins σ (upd HA D (.lst [])) sC := by
    rw [← hsC]
    exact IB.laid (t' := sB.toks) (fun b o e => Heap.get?_push_of_some _ e) (Nat.le_of_eq hD) ⟨Nat.zero_le _, [], 0, .nil, by rw [← hD]; exact Heap.get?_push_size _ rfl⟩
  have itC : sC.heap.IsListIter it a 0 := itB.at fun o e => by rw [hC]; exact Heap.get?_push_of_some _ e
  have ltB : it < sB.heap.objs.size := by
    obtain ⟨o, e, _⟩ := itB
    exact Heap.lt_size e
  have fC : ∀ b ∈ [it], FpOk X pins (upd HA D (.lst [])) b ∧ b < sC.heap.objs.size := fun b hb => by
    obtain rfl : b = it := by simpa using hb
    refine ⟨⟨?_, fB.2⟩, by rw [hC, Heap.size_push]; exact Nat.lt_succ_of_lt ltB⟩
    rw [upd_ne (by rw [← hD]; exact Nat.ne_of_lt ltB)]
    exact fB.1
  have ID := block_start IC ok hN fC
  -- the block's context
  have pg := hg sC (upd HA D (.lst [])) sC.heap.objs.size (cellsFrom (sC.heap.objs.size + 1) scope.names (cloFrom X.env.cells scope.names [])) [it]
  have pe := he sC (upd HA D (.lst [])) sC.heap.objs.size (cellsFrom (sC.heap.objs.size + 1) scope.names (cloFrom X.env.cells scope.names [])) [it]
  show codeAny _ _ (.compStart (.ListComp elt [⟨tg, l, [], 0⟩] scope pos) 0 (.ref it) (.ref D) (compEnvC scope (cellsFrom (sC.heap.objs.size + 1) scope.names (cloFrom X.env.cells scope.names [])) sC.heap.objs.size X.env)) (compPost (model X.prog X.w) X.A X.xe none _ (.ref D) sC.heap.objs.size) { sC with heap := pushCells (sC.heap.push { cls := .type "dict", data := .dict #[] }) scope.names }
  generalize hcv : compEnvC scope (cellsFrom (sC.heap.objs.size + 1) scope.names (cloFrom X.env.cells scope.names [])) sC.heap.objs.size X.env = cv at ID pg pe ⊢
  have cvL : cv.locals = sC.heap.objs.size := by subst hcv; rfl
  have nitD : it ≠ D := by rw [← hD]; exact Nat.ne_of_lt ltB
  generalize hHC : upd HA D (.lst []) = HC at IC ID pg pe w0 fC
  have hit0 : HC it = none := (fC it (by simp)).1.1
  generalize hsD : ({ sC with heap := pushCells (sC.heap.push { cls := .type "dict", data := .dict #[] }) scope.names } : Shared) = sD at ID ⊢
  have itD : sD.heap.IsListIter it a 0 := itC.at fun o e => by rw [← hsD]; exact pushCells_keeps _ _ _ _ (Heap.get?_push_of_some _ e)
  -- what is handled stands through the block
  have pC := IC.pin p (List.mem_append_left _ hp)
  have pit : p.1 ≠ it := (fC it (by simp)).1.2.2.2.2.2 p (List.mem_append_left _ hp)
  have pfr : p.1 ∉ frs X.stack := fun z => (List.mem_cons.mp (IC.stkSub p.1 z)).elim pC.2.2.1 pC.2.2.2.1
  have warm : ∀ {σ' : L2.St} {H' : Hp} {s' : Shared} {pn' : List (Addr × Obj)}, Inv (X.blk sC HC scope cv [it]) pn' σ' H' s' → HotX.HotAt X.A p.1 s'.heap := fun {σ' H' s' pn'} I' =>
    ⟨hh, p.2, v1, I'.base.keep p.1 p.2 pC.1 pC.2.1 pfr (fun z => pit (by simpa using (show p.1 ∈ [it] from z))), d1, c1⟩
  have fine : ∀ {σ' : L2.St} {H' : Hp} {s' : Shared}, Inv (X.blk sC HC scope cv [it]) [] σ' H' s' → H' it = none → FpOk (X.blk sC HC scope cv [it]) [] H' it := fun {σ' H' s'} I' n =>
    ⟨n, (I'.ok.exf it (by simp)).1, I'.ok.exfs it (by simp), .inl (by simp), fun x c e => (I'.ok.exf it (by simp)).2 x c e, fun q hq => absurd (show q ∈ ([] : List (Addr × Obj)) ++ [] from hq) (by simp)⟩
  have loop : codeAny (model X.prog X.w) X.A (.compLoop (.ListComp elt [⟨tg, l, [], 0⟩] scope pos) 0 (.ref it) (.ref D) cv) (compPost (model X.prog X.w) X.A X.xe none (EP X pins σ Q) (.ref D) sC.heap.objs.size) sD := by
    refine compLoop_any (fun n s' => ∃ i H', Inv (X.blk sC HC scope cv [it]) [] (L2.wipe σ (own.map (·.2))) H' s' ∧ s'.heap.IsListIter it a i ∧ H' it = none ∧ W i n H') ?_ m0 ⟨0, HC, ID, itD, hit0, w0⟩
    rintro n s5 ⟨i, H5, I5, it5, n5, w5⟩
    obtain ⟨f0, f1, f2, f3, f4, f5⟩ := fine I5 n5
    rcases turn i n H5 w5 with ⟨⟨ys, hys, le⟩, fin⟩ | ⟨⟨ys, y, hys, hy⟩, Nx, hNx, step⟩
    · obtain ⟨its, rv, pl, _⟩ := I5.list hys
      have hlen := rv.length
      refine list_end_hot (warm I5) pit it5 pl.isList (by simp; omega) fun h' eb => ?_
      have I6 : Inv (X.blk sC HC scope cv [it]) [] (L2.wipe σ (own.map (·.2))) H5 { s5 with heap := h' } := I5.turned (t' := s5.toks) (fun b o hb e => eb b o hb e) f0 f1 f3 f4 f5
      have I7 : Inv X pins σ H5 { s5 with heap := h' } := IC.call' (ch := [it]) I6.os I6.base I6.hok I6.bare fun b hb => ⟨(fC b hb).1.2.2.2.1, (fC b hb).1.2.1, (fC b hb).1.2.2.2.2.1, (fC b hb).1.2.2.2.2.2⟩
      have nC : H5 sC.heap.objs.size = none := by
        have z : H5 cv.locals = none := I6.free
        rw [cvL] at z
        exact z
      obtain ⟨m, hn, _⟩ := I6.loc
      have hn : h'.Ns cv.locals m := hn
      rw [cvL] at hn
      refine ⟨m, hn, fun h'' sb => ?_⟩
      obtain ⟨e0, e1, e2, e3, e4, e5⟩ := IC.fpOk (Nat.le_refl _) nC
      exact ⟨.ref D, H5, I7.turned (t' := s5.toks) (fun b o hb e => (sb.2 b hb).trans e) e0 e1 e3 e4 e5, rfl, fin⟩
    · obtain ⟨its, rv, pl, _⟩ := I5.list hys
      obtain ⟨u, hu, ru⟩ := rv.get hy
      refine wpAny_pyNext_list_item it5 pl.isList (x := u) (by simpa using hu) fun h' it6 sb => ?_
      have I6 : Inv (X.blk sC HC scope cv [it]) [] (L2.wipe σ (own.map (·.2))) H5 { s5 with heap := h' } := I5.turned (t' := s5.toks) (fun b o hb e => (sb.2 b hb).trans e) f0 f1 f3 f4 f5
      obtain ⟨o6, e6, c6, dd6⟩ := id it6
      refine go_of (s := { s5 with heap := h' }) e6 c6 dd6 (by decide) ?_
      have I7 := I6.pinned (fp := [it]) (fun b hb => by obtain rfl : b = it := by simpa using hb
                                                        exact ⟨f0, f1, f2, f3, f4, f5⟩) (fun b hb => by
        obtain rfl : b = it := by simpa using hb
        exact ⟨o6, e6, fun v z => by rw [dd6] at z; cases z⟩)
      refine thnF (pg.run _ _ _ H5 y u _ I7 ru (step y H5 ⟨rfl, fun zs hz => by rw [I5.list_inj hz hys]; exact hy⟩)) fun _ s8 ⟨σ8, H8, I8, hw8, q8⟩ => ?_
      refine thnF ((pts_nil (X := X.blk sC HC scope cv [it])).run _ s8 σ8 H8 _ I8 q8) fun b s9 ⟨H9, I9, q9⟩ => ?_
      have fin : ∀ {s' : Shared} {H' : Hp}, Inv (X.blk sC HC scope cv [it]) ([] ++ pinsAt [it] h') σ8 H' s' → Nx H' → ∃ m, m < n ∧ ∃ i H', Inv (X.blk sC HC scope cv [it]) [] (L2.wipe σ (own.map (·.2))) H' s' ∧ s'.heap.IsListIter it a i ∧ H' it = none ∧ W i m H' := fun {s' H'} I' nx => by
        obtain ⟨m', lt, w'⟩ := hNx H' nx
        have z := I'.pin (it, o6) (List.mem_append_right _ (List.mem_append_right _ (mem_pinsAt (by simp) e6)))
        have hl : (L2.wipe σ (own.map (·.2))).length = σ8.length := by rw [← hw8, wipe_length]
        refine ⟨m', lt, i + 1, H', (I'.unpinned (pins := [])).weak hl (fun j v e => ?_), it6.at fun o e => ?_, z.2.1, w'⟩
        · rw [← hw8] at e
          exact (wipe_some e).1
        · rw [e6] at e
          cases e
          exact z.1
      cases b with
      | false =>
        simp only [Bool.false_eq_true, if_false] at q9 ⊢
        exact fin I9 q9
      | true =>
        simp only [if_true] at q9 ⊢
        refine thnF (pe.run _ s9 σ8 H9 _ I9 q9) fun z s10 ⟨yv, H10, I10, r10, acc, hD10, hz10, nx⟩ => ?_
        exact app_ok (X := X.blk sC HC scope cv [it]) I10 hD10 hz10 r10 fun s11 I11 => fin I11 nx
  exact codeAny_compStart_list loop (wpAny_pyIter_listiter itD loop)
end
end NM
/-! What is told of a deed: its answer, or the word for what it raised. -/
namespace NM
open PySem PySem.Spec PyProof.Rows L2
variable [Tbs]
/-! ### by the pinned exception -/
section
variable {X : Cx} {p : Addr × Obj}
theorem cr_sumH (hot : L2H.Hot1 X.A p) (hp : p ∈ X.pn) : CallR X (.builtin "sum") (rSum X.K) := by
  intro pins s σ H vs us Q I r h
  obtain ⟨a, ns, rfl, hs, q⟩ := h
  obtain ⟨its, rv, hl, _⟩ := I.list hs
  obtain ⟨hh, v1, d1, c1⟩ := hot
  rw [Vals.ref1 r]
  exact sumH hh (I.pin p (List.mem_append_left _ hp)).1 d1 c1 hl.isList rv.ints fun h' tk t' hk => ⟨.int _, H, I.kept hk, ⟨_, rfl⟩, q⟩
theorem call_isP {D : Addr} (hp : p ∈ X.pn) (C : ExcC X.K D) (hz : Zc (.ref D) none p.2) (hf : ∃ vs, p.2.data = .fields vs) : CallR X (.builtin "isinstance") (rIsE X.K D p.1) := by
  intro pins s σ H xs us Q I r h
  obtain ⟨c, cv, b, rfl, hcv, e, q⟩ := h
  cases r with
  | cons r1 r =>
    cases r with
    | cons r2 r =>
      cases r
      obtain rfl := hcv _ r2
      cases r1
      obtain ⟨hget, _⟩ := I.pin p (List.mem_append_left _ hp)
      obtain ⟨vs, hv⟩ := hf
      obtain ⟨pa, oc, od, dt, sl⟩ := p
      obtain ⟨z1, z2⟩ := hz
      dsimp only at z1 z2 hv hget
      subst z1 z2 hv
      refine PySem.W.kia_one (PySem.W.handS_kitx_exc C.hg C.hk C.hs C.hd C.ha C.hn C.ht C.hm) I.kIn ⟨hget, rfl, rfl, trivial⟩ e (fun z => nomatch z) fun tk => ?_
      exact ⟨.bl b, H, I.kept (t' := tk) fun _ _ z => z, rfl, q⟩
end
/-- a value that stands for itself -/
def oV (v : V) : Ob := ⟨fun _ _ _ x => x = v, fun _ _ h => h⟩
section
variable {K : PySem.W.Frag} {B : Hp} {env : Env} {t : TA} {a D : Addr} {c : V}
theorem ev_cst : Ev K B (tC c) env (.lo (oV c)) := fun F H σ R Q q => q c F H (Gr.refl R.kn) rfl
theorem ev_isE {cv : Value} {b : Bool} (h : EvA K B t env [.lo (oV (.ref a)), .lo (oV c)]) (k : ClsV c cv) (e : PySem.W.kitOne K (.ref D) cv = some b) : Ev K B (tCB (rIsE K D a) t) env (.im (.bl b)) :=
  ev_cb h fun B F H vs kn ⟨H0, hv⟩ Q q => by
    cases hv with
    | cons h1 hv =>
      cases hv with
      | cons h2 hv =>
        cases hv
        obtain rfl := h1
        obtain rfl := h2
        exact ⟨_, cv, b, rfl, fun u r => k.eq r, e, q _ F H (Gr.refl kn) (.bl b)⟩
/-- [..].index(True) -/
theorem ev_idxB {te : TE} {bs : List Bool} {j : Nat} (h : Ev K B te env (.ob (.lst (bs.map .bl)))) (hy : EvA K B t env [.im (.bl true)]) (hj : bs[j]? = some true) (hl : ∀ m, m < j → bs[m]? = some false) : Ev K B (tBM K "list" (rIndex K) te t) env (.im (.int (j : Nat))) := fun F H σ R Q q =>
  h F H σ R _ fun v F1 H1 g1 r => by
    obtain ⟨l, xs, rfl, ex, r⟩ := r
    obtain rfl := r.bls
    refine ⟨.inl ⟨rfl, _, .inl (.inl ex)⟩, hy F1 H1 σ (R.step g1) _ fun us F2 H2 g2 ru => ?_⟩
    cases ru with
    | cons r1 ru =>
      cases ru
      obtain rfl := Rp.inv_bl r1
      refine ⟨l, _, .bl true, j, .bl true, rfl, rfl, .inl (.inl (g2.hh _ _ nt_lst ex)), rfl, ?_, by rw [List.getElem?_map, hj] <;> rfl, rfl, fun m z hm hz => ?_, q _ F2 H2 (g1.trans g2) (.int _)⟩
      · rw [List.all_map]
        exact List.all_eq_true.mpr fun _ _ => rfl
      · rw [List.getElem?_map, hl m hm] at hz
        cases hz
        rfl
end
/-! ### the word for what was raised -/
/-- the classes, by their names: what is known of them -/
structure Words (K : PySem.W.Frag) (mg : Str → Option Value) (cs : List (Str × Addr)) : Prop where
  gl : ∀ p ∈ cs, mg p.1 = some (.ref p.2)
  exc : ∀ p ∈ cs, ExcC K p.2
  kit : ∀ p ∈ cs, ∀ q ∈ cs, PySem.W.kitOne K (.ref p.2) (.ref q.2) = some (decide (p.1 = q.1))
  ve : ∀ p ∈ cs, PySem.W.kitOne K (.ref p.2) (.type "ValueError") = some true
/-- ('refused', its name) -/
def wordD (x : Str) : D := .tup [.str "refused", .str x]
/-- what is promised of p: it is handled -/
abbrev WSp := Addr × Obj → Hp → VK → Prop
structure FnW (P : Program) (w : World) (K : PySem.W.Frag) (mg : Str → Option Value) (base : Heap) (k : Nat) (f : Addr) (fd : FuncData) (x : Str) (sp : WSp) : Prop where
  run : ∀ (A : Around) (outer : List PySem.Env) (s : Shared) (H : Hp) (args : Args) (Q : VK) (E : XK) (p : Addr × Obj), L2H.RoomH k A → L2H.Hot1 A p → L2H.PinOk outer H s p → Env0 P w K mg base A outer s H → BindsTo s fd args [(x, .ref p.1)] → sp p H Q →
    codeAny (model P w) A (.call (.ref f) args) (CR (L2N.CX P w) outer P w H s Q E) s
section
variable {P : Program} {w : World} {K : PySem.W.Frag} {mg : Str → Option Value} {base : Heap} {k : Nat} {f : Addr} {name qual x : Str} {params : Arguments} {body : List Stmt} {scope : Scope} {dV kV doc pm cdv ct oc : Value} {an od : Option Addr} {osl : Array (Option Value)} {N : List Str} {sp : WSp}
theorem fnw_of (lk : K.lookup f = some ⟨oc, od, .func (PySem.W.fnOf name qual params body scope dV kV doc pm an cdv ct), osl⟩) (hcd : PySem.W.codeIn K cdv qual = true) (S : FnScope N [x] scope)
    (hbody : ∀ (A : Around) (outer : List PySem.Env) (s : Shared) (H : Hp) (Q : VK) (E : XK) (p : Addr × Obj), L2H.Hot1 A p → L2H.RoomH k (A.deeper (envOfC qual scope s.heap.objs.size f cdv)) → sp p H Q →
      ∃ t, PSs (L2H.cxH (L2N.CX P w) P w K mg base N qual scope f cdv A outer s H E p) body t ∧ t { nx := fun _ H' => Q .non H', rt := Q } (L2.start N [.ref p.1]) H) :
    FnW P w K mg base (k + 1) f (PySem.W.fnOf name qual params body scope dV kV doc pm an cdv ct) x sp := by
  refine ⟨fun A outer s H args Q E p hr hot hpin e0 hb hsp => ?_⟩
  have still : ∀ b o, base.get? b = some o → s.heap.get? b = some o := fun b o e => (e0.bs b o e).1
  have here : K.In s.heap := e0.mod.kin.keeps still
  have kinds : ∀ y ∈ [x].zip [Value.ref p.1], scope.names.lookup y.1 = some .local ∨ (scope.names.lookup y.1 = some .cell ∧ ((cellsFrom (s.heap.objs.size + 1) scope.names []).lookup y.1).isSome = true) := fun y hy => by
    obtain rfl : y = (x, Value.ref p.1) := by simpa using hy
    exact (S.par x (by simp)).imp id fun q => ⟨q, PySem.W.cellsFrom_some _ _ _ (.inl q)⟩
  refine codeAny_call_function hr.depth (here _ _ lk) rfl S.co S.gen rfl (PySem.W.codeRec_of here hcd) (hb _ _ _ _ ?_)
  refine wpAny_newFunctionEnv_cells (binds := [x].zip [Value.ref p.1]) S.kind kinds fun env he s1 new => ?_
  subst he
  refine ⟨(e0.mod.nolimit.keeps still).keeps new.toInCall.keep, codeAny_func ?_⟩
  obtain ⟨t, ht, hq⟩ := hbody A outer s H Q E p hot (hr.deeper _) hsp
  have J := L2H.inv_startH (CX := L2N.CX P w) (E := E) (vs := [.ref p.1]) (us := [.ref p.1]) S hpin e0 rfl (.cons rfl .nil) new
  refine wpAny_mono (ht.run [] s1 _ H _ J hq) (fun fl s' z => ?_) fun e s' z => z
  cases fl with
  | ret u => obtain ⟨v, σ', H', J', rv, q⟩ := z; exact ⟨v, H', J'.os, J'.bare, J'.base, J'.hok, rv, q⟩
  | next => obtain ⟨σ', H', J', q⟩ := z; exact ⟨.non, H', J'.os, J'.bare, J'.base, J'.hok, rfl, q⟩
  | brk => obtain ⟨_, _, _, q⟩ := z; exact q.elim
  | cont => obtain ⟨_, _, _, q⟩ := z; exact q.elim
end
section
variable {X : Cx} {k : Nat} {f : Addr} {fd : FuncData} {x y : Str} {sp : WSp} {p : Addr × Obj} {i : Nat} {q r pos : Pos}
/-- f(n), n what is handled, in its suite -/
theorem pe_callW (F : FnW X.prog X.w X.K X.mg X.base k f fd x sp) (hr : L2H.RoomH k X.A) (hot : L2H.Hot1 X.A p) (hp : p ∈ X.pn) (hg : Gl X y) (hm : X.mg y = some (.ref f)) (hk : PySem.W.keepIn X.K (.ref f) = true) (hb : Binds X.K fd [x] [])
    (hE : ∀ s H e s' pins σ, Inv X pins σ H s → L2N.CX X.prog X.w X.stack H s E0 e s' → X.xe e s') {n : Str} (hn : PE X (.Name n r) (tVar i)) (hdb : (y == ("__debug__" : Str)) = false := by decide)
    (he : starEach [.Name n r] X.env = (false, eval (.Name n r) X.env) :: starEach [] X.env := by rfl) (hpl : (backTo pos (starEach [] X.env)).any (·.1) = false := by rfl) :
    PE X (.Call (.Name y q) [.Name n r] [] pos) (fun σ H Q => σ[i]? = some (some (.ref p.1)) ∧ sp p H Q) := by
  refine ⟨fun pins s σ H Q I h => ?_⟩
  obtain ⟨hs, h⟩ := h
  refine wpAny_Call_Name_kw (ld_glob I hg hm ?_ hdb)
  have ha : PA X [.Name n r] (tCons (tVar i) tNil) := pa_cons hn pa_nil he
  refine PySem.W.callWith_K (h₀ := X.base) I.ok.mod.kin hk (thn (ha.run pos pins s σ H (fun vs H1 => vs = [V.ref p.1] ∧ H1 = H) I ⟨.ref p.1, hs, rfl, rfl⟩) fun us s1 z => ?_) he hpl
  obtain ⟨vs, H1, I1, rv, ev, eH⟩ := z
  subst ev
  rw [eH] at I1
  obtain rfl := Vals.ref1 rv
  refine ⟨I1.kIn, ?_⟩
  have P1 := I1.pin p (List.mem_append_left _ hp)
  have pin : L2H.PinOk X.stack H s1 p := ⟨P1.1, P1.2.1, fun z => (List.mem_cons.mp (I1.stkSub p.1 z)).elim P1.2.2.1 P1.2.2.2.1, P1.2.2.2.2⟩
  have b := hb s1 [.ref p.1] I1.kIn rfl
  refine wpAny_call (codeAny_mono (F.run X.A X.stack s1 H ⟨[.ref p.1], []⟩ Q E0 p hr hot pin I1.env0 b h) fun o s' z => ?_)
  cases o with
  | error e => exact hE _ _ _ _ _ _ I1 z
  | ok fl =>
    cases fl with
    | ret u => exact I1.after z
    | next => exact z.elim
    | brk => exact z.elim
    | cont => exact z.elim
end
end NM
/-! told(lambda: body): the lambda's exceptions keep that their context is None. -/
namespace NM
open PySem PySem.Spec PyProof.Rows L2
variable [Tbs]
open LamX
/-- the lambda's own context, its exceptions with their context -/
def lamN (X : Cx) (A : Around) (outer : List PySem.Env) (s : Shared) (H : Hp) (E : XK) (scope : Scope) (f c' : Addr) : Cx :=
  (lamCx X A outer s H E scope f c').wish fun e s' => wpAny (model X.prog X.w) (A.deeper (lamEnv X scope s.heap.objs.size f c')) (leaving (lamEnv X scope s.heap.objs.size f c') e) (fun _ s'' => L2N.CX X.prog X.w outer H s E e s'') (fun e' s'' => L2N.CX X.prog X.w outer H s E e' s'') s'
section
variable {X : Cx} {pins : List (Addr × Obj)} {σ : L2.St} {H : Hp} {s : Shared}
/-- a(), where told stands: its context Z was entered at s -/
theorem pe_deed {Ng : List Str} {qg : Str} {sg : Scope} {g f c' : Addr} {cdg pm ctv : Value} {params : Arguments} {body : Expr} {scope : Scope} {k : Nat} {a : Str} {pn : List (Addr × Obj)} {xe : Value → Shared → Prop} {W : WX} {E : XK} {tb : TE} {p1 p2 : Pos}
    (I : Inv X pins σ H s) (L : LamS X.env.scope scope) (hf : s.heap.get? f = some (PySem.W.kla_obj "<lambda>" (X.env.qual ++ "<lambda>") params body scope (cloFrom X.env.cells scope.names []) pm c' ctv)) (hfn : H f = none) (hfr : f ∉ frs X.stack)
    (hbind : bindArgs (PySem.W.kla_fn "<lambda>" (X.env.qual ++ "<lambda>") params body scope (cloFrom X.env.cells scope.names []) pm (.ref c') ctv) ⟨[], []⟩ = pure [])
    (tk : L2N.Takes ((cxOf (L2N.CX X.prog X.w) X.prog X.w X.K X.mg X.base Ng qg sg g cdg X.A X.stack s H E0).tr pn xe) W) (hr : Room (k + 1) (X.A.deeper (envOfC qg sg s.heap.objs.size g cdg)))
    (hbody : ∀ (A : Around) (outer : List PySem.Env) (s : Shared) (H : Hp), Room k (A.deeper (lamEnv X scope s.heap.objs.size f c')) → PE (lamN X A outer s H E scope f c') body tb)
    (hN : Ng[0]? = some a) (hv : Vis sg a) (hd : (a == ("__debug__" : Str)) = false := by decide) (hcd : (a == ("__classdict__" : Str)) = false := by decide) :
    PE ((cxOf (L2N.CX X.prog X.w) X.prog X.w X.K X.mg X.base Ng qg sg g cdg X.A X.stack s H E0).tr pn xe) (.Call (.Name a p1) [] [] p2)
      (fun σZ HZ Q => (∀ cls d H', E cls d H' → W cls d σZ H') ∧ σZ[0]? = some (some (.ref f)) ∧ HZ c' = some (CodeO c' (X.env.qual ++ "<lambda>")) ∧ tb σ HZ Q) := by
  refine ⟨fun pinsZ sZ σZ HZ Q IZ h => ?_⟩
  obtain ⟨hW, hs, hc, ht⟩ := h
  have hvar := (pe_var (pos := p1) (i := 0) hN hv hd hcd).run pinsZ sZ σZ HZ (fun v H1 => v = .ref f ∧ H1 = HZ) IZ ⟨.ref f, hs, rfl, rfl⟩
  refine wpAny_Call_Name_kw (thn hvar fun u s1 z => ?_)
  obtain ⟨v, H1, I1, r1, rfl, rfl⟩ := z
  obtain rfl : u = Value.ref f := r1
  have here : s1.heap.get? f = some (PySem.W.kla_obj "<lambda>" (X.env.qual ++ "<lambda>") params body scope (cloFrom X.env.cells scope.names []) pm c' ctv) := I1.base.keep f _ hf hfn hfr fun z => nomatch (show f ∈ ([] : List Addr) from z)
  refine PySem.W.callWith_F0 ⟨_, _, _, _, here⟩ ?_
  have un : Un (frs X.stack) [] H H1 s.heap s1.heap := I1.base
  have code := (I1.hok c' _ hc).1
  obtain ⟨oc, vs, t, hoc, hdc, hvc⟩ := code
  have run : codeAny (model X.prog X.w) (X.A.deeper (envOfC qg sg s.heap.objs.size g cdg)) (.call (.ref f) ⟨[], []⟩) (CR (L2N.CX X.prog X.w) (envOfC qg sg s.heap.objs.size g cdg :: X.stack) X.prog X.w H1 s1 Q E) s1 := by
    refine PySem.W.kla_callFunE hr.depth here rfl L.co L.gen rfl ⟨c', oc, vs, t, rfl, hoc, hdc, hvc⟩ ?_
    rw [hbind]
    refine wpAny_pure (wpAny_newFunctionEnv (fun y hy => (L.own y hy).2) (fun y hy => absurd hy (by simp)) (fun h₁ hns sb => ⟨I1.nolimit.fresh _ sb, ?_⟩) L.kind)
    show codeAny _ _ (.expr body (lamEnv X scope s1.heap.objs.size f c')) _ _
    have J := lam_start2 (A := X.A.deeper (envOfC qg sg s.heap.objs.size g cdg)) (outer := envOfC qg sg s.heap.objs.size g cdg :: X.stack) (E := E) (f := f) (c' := c') (tk := s1.toks + ([] : List (Str × Value)).length) I L I1.env0 hr.hd un hns
      fun b o e => sb.extBut b o (Nat.ne_of_lt (Heap.lt_size e)) (Heap.get?_push_of_some _ e)
    have J' : Inv (lamN X (X.A.deeper (envOfC qg sg s.heap.objs.size g cdg)) (envOfC qg sg s.heap.objs.size g cdg :: X.stack) s1 H1 E scope f c') [] σ H1 _ := J.wish _
    refine PySem.W.kla_codeExpr (wpAny_mono ((hbody _ _ s1 H1 (hr.deeper _)).run [] _ _ H1 Q J' ht) (fun v s' z => ?_) fun e s' z => z)
    obtain ⟨w', H', J2, rv, q⟩ := z
    exact ⟨w', H', J2.os, J2.bare, J2.base, J2.hok, rv, q⟩
  refine wpAny_call (codeAny_mono run fun o s' z => ?_)
  cases o with
  | error e => exact tk _ _ (L2N.XE.of_call I1 (fun cls d H' q => hW cls d H' q) z)
  | ok fl =>
    cases fl with
    | ret u => exact I1.after z
    | next => exact z.elim
    | brk => exact z.elim
    | cont => exact z.elim
/-- what told makes of an exception: the word's promise, with its class -/
abbrev TSp := Value → Option Addr → Hp → VK → Prop
def tTold (T : List (Addr × Str)) (ws : TSp) (t : XK → TE) : TE := fun σ H Q => Tabs T H ∧ ∀ H1, ExtN H H1 → Tabs T H1 → t (fun cls d H' => ws cls d H' Q) σ H1 Q
/-- told(lambda: body); told is: try: return a() / except x as n: return w(n) -/
theorem pe_told {T : List (Addr × Str)} {ws : TSp} {tell a x n wd : Str} {g c P CS fw : Addr} {fdw : FuncData} {wx : Str} {wsp : WSp} {k j : Nat} {pg : Arguments} {sg : Scope} {dV kV doc pm cdv ct oc : Value} {an od : Option Addr} {osl : Array (Option Value)} {Ng : List Str}
    {params : Arguments} {body : Expr} {scope : Scope} {t : XK → TE} {p lpos pos p1 p2 p3 p4 p5 p6 p7 p8 p9 p10 : Pos} (hg : Gl X tell) (hm : X.mg tell = some (.ref g)) (hk : PySem.W.keepIn X.K (.ref g) = true)
    (bg : List Stmt) (ebg : bg = [.Try [.Return (some (.Call (.Name a p1) [] [] p2)) p3] [.ExceptHandler (some (.Name x p4)) (some n) [.Return (some (.Call (.Name wd p5) [.Name n p6] [] p7)) p8] p9] [] [] p10])
    (lk : X.K.lookup g = some ⟨oc, od, .func (PySem.W.fnOf tell tell pg bg sg dV kV doc pm an cdv ct), osl⟩)
    (hcg : PySem.W.codeIn X.K cdv tell = true) (hb : L2.Binds X.K (PySem.W.fnOf tell tell pg bg sg dV kV doc pm an cdv ct) [a] [])
    (Sg : FnScope Ng [a] sg) (hNg : Ng[0]? = some a) (hva : Vis sg a) (hj : Ng[j]? = some n) (hjl : sg.names.lookup n = some .local)
    (hxg : sg.names.lookup x = some .globalImplicit) (hxm : X.mg x = some (.ref CS)) (hxd : (x == ("__debug__" : Str)) = false)
    (hwg : sg.names.lookup wd = some .globalImplicit) (hwm : X.mg wd = some (.ref fw)) (hwk : PySem.W.keepIn X.K (.ref fw) = true) (hwb : L2.Binds X.K fdw [wx] []) (F : FnW X.prog X.w X.K X.mg X.base k fw fdw wx wsp)
    (hws : ∀ cls d H Q, ws cls d H Q → PySem.W.exmOne X.K cls (.ref CS) = some true ∧ ∀ p : Addr × Obj, Zc cls d p.2 → (∃ vs, p.2.data = .fields vs) → wsp p H Q)
    (TB : TabB X.base X.mg c P) (hcode : X.env.code = .ref c) (hmT : (P, X.env.qual ++ "<lambda>") ∈ T) (hu : ∀ p ∈ T, p.1 = P → p.2 = X.env.qual ++ "<lambda>") (hr : Room (k + 2) X.A) (L : LamS X.env.scope scope) (hdef : defaultsOf params X.env = ([], []))
    (hbind : ∀ (q : Str) (cl : List (Str × Addr)) (pm cv ctv : Value), bindArgs (PySem.W.kla_fn "<lambda>" q params body scope cl pm cv ctv) ⟨[], []⟩ = pure [])
    (hbody : ∀ (A : Around) (outer : List PySem.Env) (s : Shared) (H : Hp) (E : XK) (f c' : Addr), Room k (A.deeper (lamEnv X scope s.heap.objs.size f c')) → PE (lamN X A outer s H E scope f c') body (t E))
    (hdb : (tell == ("__debug__" : Str)) = false := by decide) (hd : (a == ("__debug__" : Str)) = false := by decide) (hcd : (a == ("__classdict__" : Str)) = false := by decide) (hnd : (n == ("__debug__" : Str)) = false := by decide) (hnc : (n == ("__classdict__" : Str)) = false := by decide) (hwd : (wd == ("__debug__" : Str)) = false := by decide) :
    PE X (.Call (.Name tell p) [.Lambda params body scope lpos] [] pos) (tTold T ws t) := by
  subst ebg
  refine ⟨fun pins s σ H Q I h => ?_⟩
  obtain ⟨hT, h⟩ := h
  refine wpAny_Call_Name_kw (ld_glob I hg hm ?_ hdb)
  refine PySem.W.callWith_K (h₀ := X.base) I.ok.mod.kin hk ?_ (by rfl) (by rfl)
  show wpAny _ _ (spliced ((false, eval (.Lambda params body scope lpos) X.env) :: backTo pos (starEach [] X.env))) _ _ s
  refine Calls.spliced_cons (lam_make2 I TB hcode hmT hu hT hdef (L.has I.ok) fun f c' pm' ctv H1 s' I1 eN T1 hf hfn hfr hco => ?_)
  refine Calls.spliced_nil ⟨I1.kIn, ?_⟩
  have rc : codeAny (model X.prog X.w) X.A (.call (.ref g) ⟨[.ref f], []⟩) (CR (L2N.CX X.prog X.w) X.stack X.prog X.w H1 s' Q E0) s' := by
    refine run_ofS (N := Ng) (ps := [a]) (us := [.ref f]) (vs := [.ref f]) lk hcg Sg hr I1.env0 (hb s' [.ref f] I1.kIn rfl) (.cons rfl .nil) rfl fun hr' => ?_
    have jl : j < (L2.start Ng [V.ref f]).length := by
      have hlt := (List.getElem?_eq_some_iff.mp hj).1
      unfold L2.start
      rw [List.length_append, List.length_map, List.length_replicate]
      simp only [List.length_cons, List.length_nil]
      omega
    have tk0 : L2N.Takes (cxOf (L2N.CX X.prog X.w) X.prog X.w X.K X.mg X.base Ng tell sg g cdv X.A X.stack s' H1 E0) (fun _ _ _ _ => False) := fun _ _ z => by
      obtain ⟨_, _, _, _, _, _, _, _, _, _, _, _, _, _, _, _, z⟩ := z
      exact z.elim
    refine ⟨_, pss_one (L2N.ps_try_as (c := .ref CS) (i := j) (Wout := fun _ _ _ _ => False)
      (tb := fun W D σZ HZ => ∃ E' : XK, (∀ cls d H', E' cls d H' → W cls d σZ H') ∧ σZ[0]? = some (some (.ref f)) ∧ HZ c' = some (CodeO c' (X.env.qual ++ "<lambda>")) ∧ t E' σ HZ D.rt)
      (ts := fun b cls d D σZ HZ => σZ[j]? = some (some (.ref b)) ∧ ws cls d HZ D.rt)
      rfl rfl Sg.nd hj hjl ⟨hxg, hxd, .inl hxm⟩ tk0 (fun W pn xe tk _ => ?_) (fun b oe cls d pn hz hfs => ?_)), ?_⟩
    · refine ⟨fun pinsZ sZ σZ HZ D IZ z => ?_⟩
      obtain ⟨E', hW, h1, h2, h3⟩ := z
      have hp := pe_deed (p1 := p1) (p2 := p2) (E := E') I1 L hf hfn hfr (hbind _ _ _ _ _) tk hr' (fun A outer s H hr2 => hbody A outer s H E' f c' hr2) hNg hva hd hcd
      exact (pss_one (ps_ret (pos := p3) hp)).run pinsZ sZ σZ HZ D IZ ⟨hW, h1, h2, h3⟩
    · refine ⟨fun pinsZ sZ σZ HZ D IZ z => ?_⟩
      obtain ⟨h1, h2⟩ := z
      obtain ⟨_, h3⟩ := hws _ _ _ _ h2
      have hot : L2H.Hot1 ((cxOf (L2N.CX X.prog X.w) X.prog X.w X.K X.mg X.base Ng tell sg g cdv X.A X.stack s' H1 E0).suite b ((b, oe) :: pn)).A (b, oe) := by
        obtain ⟨vs, e⟩ := hfs
        exact ⟨rfl, vs, e, hz.2.2 vs e⟩
      have hp := pe_callW (X := (cxOf (L2N.CX X.prog X.w) X.prog X.w X.K X.mg X.base Ng tell sg g cdv X.A X.stack s' H1 E0).suite b ((b, oe) :: pn)) (p := (b, oe)) (i := j) (q := p5) (r := p6) (pos := p7) F
        (L2H.RoomH.mono ⟨hr'.dp, hr'.un⟩ (Nat.le_succ k)) hot List.mem_cons_self hwg hwm hwk hwb (fun _ _ _ _ _ _ _ z => by obtain ⟨_, _, _, _, _, _, _, _, _, _, _, _, z⟩ := z; exact z.elim)
        (pe_var (i := j) hj (.inl hjl) hnd hnc) hwd
      exact (pss_one (ps_ret (pos := p8) hp)).run pinsZ sZ σZ HZ D IZ ⟨h1, h3 (b, oe) hz.zc hfs⟩
    · refine ⟨fun cls d H' => ws cls d H' Q, fun cls d H' q => ⟨true, (hws _ _ _ _ q).1, fun _ b _ => ⟨List.getElem?_set_self jl, q⟩, fun z => nomatch z⟩, ?_, hco, h H1 eN T1⟩
      rfl
  refine wpAny_call (codeAny_mono rc fun r s2 z => ?_)
  cases r with
  | error e =>
    obtain ⟨_, _, _, _, _, _, _, _, _, _, _, _, z⟩ := z
    exact z.elim
  | ok fl =>
    cases fl with
    | ret u => exact I1.after z
    | next => exact z.elim
    | brk => exact z.elim
    | cont => exact z.elim
end
/-! ### upon data -/
/-- the word's promise -/
def wsOf (K : PySem.W.Frag) (cs : List (Str × Addr)) : TSp := fun cls d H Q => ∃ (nm : Str) (C : Addr) (F : Hp), (nm, C) ∈ cs ∧ cls = .ref C ∧ d = none ∧ Kn F H ∧ LamX.Tabs Tbs.T H ∧ ∀ v F' H', Gr F F' H H' → Rp K F' v (wordD nm) → Q v H'
/-- a lambda's body -/
def EvL (K : PySem.W.Frag) (B : Hp) (t : XK → TE) (env : Env) (res : Res) : Prop :=
  ∀ F H σ, RelE K B F H σ env → ∀ (Q : VK) (E : XK), (match res with
    | .ok r => ∀ v F' H', Gr F F' H H' → VlOk K B H F' H' v r → Q v H'
    | .ex C => ∀ F' H', Gr F F' H H' → E (.ref C) none H') → t E σ H Q
/-- what is told of it -/
inductive ToldIs (cs : List (Str × Addr)) : Res → D → Prop
  | ok (d : D) : ToldIs cs (.ok (.im d)) d
  | ex (nm : Str) (C : Addr) (h : (nm, C) ∈ cs) : ToldIs cs (.ex C) (wordD nm)
section
variable {K : PySem.W.Frag} {B : Hp} {env : Env} {t : XK → TE} {cs : List (Str × Addr)} {res : Res} {d : D} {ta : TA} {S : List Vl → Res → Prop} {n : Nat} {rs : List Vl}
theorem Gr.tables {F H H1 : Hp} (k : Kn F H) (e : ExtN H H1) (T1 : LamX.Tabs Tbs.T H1) : Gr F F H H1 := by
  have hh : ∀ a u, NT u → H a = some u → H1 a = some u := fun a u n h => e a u h n
  exact ⟨fun _ _ _ e => e, fun _ _ _ _ e => e, hh, fun _ => T1, k.trans (.of hh)⟩
theorem ev_told (h : EvL K B t env res) (w : ToldIs cs res d) : Ev K B (tTold Tbs.T (wsOf K cs) t) env (.im d) := fun F H σ R Q q => by
  refine ⟨R.bn.tb, fun H1 e T1 => ?_⟩
  have g := Gr.tables R.kn e T1
  refine h F H1 σ (R.step g) _ _ ?_
  cases w with
  | ok d => exact fun v F' H' g' x => q v F' H' (g.trans g') x
  | ex nm C hm => exact fun F' H' g' => ⟨nm, C, F', hm, rfl, rfl, g'.kn, g'.tb (g.tb R.bn.tb), fun v F2 H2 g2 r => q v F2 H2 (g.trans (g'.trans g2)) r⟩
/-- a call within the lambda -/
theorem el_call (h : EvA K B ta env rs) (f : ∀ r ∈ rs, Flat r) (s : S rs res) (b : ∀ r, res = .ok r → Back r) (hn : rs.length = n := by rfl) : EvL K B (fun E => tCall (spX K S n) [] E ta) env res := fun F H σ R Q E q =>
  h F H σ R _ fun vs F' H' g x => by
    show spX K S n (vs ++ []) H' Q E
    rw [List.append_nil]
    refine ⟨F', rs, res, by rw [x.length]; exact hn, g.kn, (R.bn.step g).tb, x.flat f, s, ?_⟩
    cases res with
    | ok r => exact fun v F2 H2 g2 y => q v F2 H2 (g.trans g2) ((y.back' (b r rfl)).back g.mo)
    | ex C => exact fun F2 H2 g2 => q F2 H2 (g.trans g2)
end
end NM
/-! What is known of the module's names; isinstance; names and points. -/
namespace NM
open PySem PySem.Spec PyProof.Rows L2
variable [Tbs]
/-- the built-in names that the module leaves alone -/
structure Free (mg : Str → Option Value) : Prop where
  len : mg "len" = none
  isinstance : mg "isinstance" = none
  all : mg "all" = none
  max : mg "max" = none
  min : mg "min" = none
  abs : mg "abs" = none
  range : mg "range" = none
  sorted : mg "sorted" = none
  sum : mg "sum" = none
  int : mg "int" = none
  bool : mg "bool" = none
  str : mg "str" = none
  list : mg "list" = none
  tuple : mg "tuple" = none
  dict : mg "dict" = none
  ValueError : mg "ValueError" = none
  enumerate : mg "enumerate" = none
  set : mg "set" = none
def frees : List Str := ["len", "isinstance", "all", "max", "min", "abs", "range", "sorted", "sum", "int", "bool", "str", "list", "tuple", "dict", "ValueError", "enumerate", "set"]
theorem Free.of {mg : Str → Option Value} (h : ∀ x ∈ frees, mg x = none) : Free mg := by
  constructor <;> exact h _ (by simp [frees])
/-- a class over ValueError -/
structure Ex (K : PySem.W.Frag) (mg : Str → Option Value) (nm : Str) (C : Addr) : Prop where
  x : PySem.W.excIn K C He.veBase "ValueError.__new__" = true
  g : mg nm = some (.ref C)
  k : PySem.W.keepIn K (.ref C) = true
  b : PySem.W.subIn K (.ref C) (.type "BaseException") = some true
  t : PySem.W.typeIn K (.ref C) = some (.type "type")
/-! ### isinstance -/
def tyOf : D → String
  | .non => "NoneType"
  | .bl _ => "bool"
  | .int _ => "int"
  | .str _ => "str"
  | .tup _ => "tuple"
  | .lst _ => "list"
  | .dct _ => "dict"
theorem ty_x {K : PySem.W.Frag} {F H : Hp} {v : V} {d : D} (k : Kn F H) (h : Rp K F v d) : TyX K H v (.type (tyOf d)) := by
  cases h with
  | non => exact .base .non
  | bl b => exact .base (.bl b)
  | int i => exact .base (.int i)
  | str s => exact .base (.str s)
  | tup q r =>
    rcases k.sqT q with (z | ⟨o, z⟩) | ⟨o, _, _, z, c, _⟩
    · exact .base (.tup z)
    · exact .fTuple z
    · exact .kTuple z c
  | lst q r => exact .base (.lst (k.lst q))
  | dct q r =>
    rcases k.rd q with z | ⟨o, z⟩
    · exact .base (.dK z)
    · exact .fDict z
/-- whether d is of a class -/
def isInt : D → Bool
  | .int _ => true
  | .bl _ => true
  | _ => false
def isBl : D → Bool
  | .bl _ => true
  | _ => false
def isStr : D → Bool
  | .str _ => true
  | _ => false
def isTup : D → Bool
  | .tup _ => true
  | _ => false
def isLst : D → Bool
  | .lst _ => true
  | _ => false
theorem kit_int (d : D) : kitB (tyOf d) "int" = some (isInt d) := by cases d <;> simp only [tyOf, isInt] <;> decide +kernel
theorem kit_bl (d : D) : kitB (tyOf d) "bool" = some (isBl d) := by cases d <;> simp only [tyOf, isBl] <;> decide +kernel
theorem kit_str (d : D) : kitB (tyOf d) "str" = some (isStr d) := by cases d <;> simp only [tyOf, isStr] <;> decide +kernel
theorem kit_tup (d : D) : kitB (tyOf d) "tuple" = some (isTup d) := by cases d <;> simp only [tyOf, isTup] <;> decide +kernel
theorem kit_lst (d : D) : kitB (tyOf d) "list" = some (isLst d) := by cases d <;> simp only [tyOf, isLst] <;> decide +kernel
section
variable {K : PySem.W.Frag} {B : Hp} {env : Env} {t : TA} {d : D} {c : String} {b : Bool} {ta tb : TE}
theorem ev_isi (h : EvA K B t env [.im d, .lo (oV (.ty c))]) (e : kitB (tyOf d) c = some b) : Ev K B (tCB (rIsi K) t) env (.im (.bl b)) :=
  ev_cb h fun B F H vs kn ⟨H0, hv⟩ Q q => by
    cases hv with
    | cons h1 hv =>
      cases hv with
      | cons h2 hv =>
        cases hv
        obtain rfl := h2
        exact ⟨_, _, _, _, b, rfl, .ty c, ty_x kn h1, kit_ty e, q _ F H (Gr.refl kn) (.bl b)⟩
theorem ev_isInt (h : EvA K B t env [.im d, .lo (oV (.ty "int"))]) : Ev K B (tCB (rIsi K) t) env (.im (.bl (isInt d))) := ev_isi h (kit_int d)
theorem ev_isBl (h : EvA K B t env [.im d, .lo (oV (.ty "bool"))]) : Ev K B (tCB (rIsi K) t) env (.im (.bl (isBl d))) := ev_isi h (kit_bl d)
theorem ev_isStr (h : EvA K B t env [.im d, .lo (oV (.ty "str"))]) : Ev K B (tCB (rIsi K) t) env (.im (.bl (isStr d))) := ev_isi h (kit_str d)
theorem ev_isTup (h : EvA K B t env [.im d, .lo (oV (.ty "tuple"))]) : Ev K B (tCB (rIsi K) t) env (.im (.bl (isTup d))) := ev_isi h (kit_tup d)
theorem ev_isLst (h : EvA K B t env [.im d, .lo (oV (.ty "list"))]) : Ev K B (tCB (rIsi K) t) env (.im (.bl (isLst d))) := ev_isi h (kit_lst d)
/-- script == [] -/
theorem ev_eqSc0 {ns : List Int} (ha : Ev K B ta env (.lo (oS ns))) (hb : Ev K B tb env (.ob (.lst []))) : Ev K B (tOp (rEqD K) ta tb) env (.im (.bl (decide (ns = [])))) :=
  ev_op ha hb fun B F H x y k ⟨_, hx⟩ ⟨_, hy⟩ Q q => by
    obtain ⟨p, rfl, ex⟩ := hx
    obtain ⟨p', ys, rfl, ey, r⟩ := hy
    cases r
    have key : ∀ zs : List Int, DpAll K H (zs.map V.int) (zs.map PyData.int) := fun zs => by
      induction zs with
      | nil => exact .nil
      | cons z zs ih => exact .cons (.int z) ih
    have e1 : PyData.eqv (.list (ns.map PyData.int)) (.list []) = decide (ns = []) := by
      cases ns with
      | nil => simp [PyData.eqv, PyData.eqvAll]
      | cons n ns => simp [PyData.eqv, PyData.eqvAll]
    have e2 : SeqAt.shaped (PyData.list (ns.map PyData.int)) = true := by
      have c1 : ∀ zs : List Int, PyData.canLayAll0 (zs.map PyData.int) = true := fun zs => by
        induction zs with
        | nil => rfl
        | cons n zs ih => simpa [PyData.canLayAll0, PyData.canLay0] using ih
      have c2 : ∀ zs : List Int, PyData.depthAll (zs.map PyData.int) ≤ 1 := fun zs => by
        induction zs with
        | nil => exact Nat.zero_le _
        | cons n zs ih =>
          simp only [List.map_cons, PyData.depthAll, PyData.depth]
          omega
      unfold SeqAt.shaped
      have d1 : (PyData.list (ns.map PyData.int)).canLay0 = true := by simpa [PyData.canLay0] using c1 ns
      have d2 : (PyData.list (ns.map PyData.int)).depth ≤ 64 := by
        have := c2 ns
        simp only [PyData.depth]; omega
      rw [d1, decide_eq_true d2]
      all_goals rfl
    refine ⟨_, _, .lst ex (key ns), .lst (.inl (.inl ey)) .nil, e2, by decide, ?_⟩
    rw [e1]
    exact q _ F H (Gr.refl k) (.bl _)
end
/-! ### slices, minus -/
/-- a part of a slice -/
def EvO (K : PySem.W.Frag) (B : Hp) (tl : TO) (env : Env) (o : Option Int) : Prop :=
  ∀ F H σ, RelE K B F H σ env → ∀ Q : Option Int → Hp → Prop, (∀ F' H', Gr F F' H H' → Q o H') → tl σ H Q
/-- the items of ds[lo:hi] -/
def cutD {α : Type} (xs : List α) (lo hi : Option Int) : List α := (xs.drop (HT.sIx xs.length 0 lo)).take (HT.sIx xs.length xs.length hi - HT.sIx xs.length 0 lo)
section
variable {K : PySem.W.Frag} {B : Hp} {env : Env} {te : TE} {tl th : TO} {lo hi : Option Int} {i : Int} {s : Str} {ds : List D}
theorem eo_none : EvO K B tNoPart env none := fun F H σ R Q q => q F H (Gr.refl R.kn)
theorem eo_some (h : Ev K B te env (.im (.int i))) : EvO K B (tPart te) env (some i) := fun F H σ R Q q =>
  h F H σ R _ fun v F' H' g r => ⟨i, Rp.inv_int r, q F' H' g⟩
theorem ev_slS (h : Ev K B te env (.im (.str s))) (hl : EvO K B tl env lo) (hh : EvO K B th env hi) (hz : s.length ≤ sizeLine) : Ev K B (tSl rSlS te tl th) env (.im (.str (cutS s lo hi))) := fun F H σ R Q q =>
  h F H σ R _ fun v F1 H1 g1 r => hl F1 H1 σ (R.step g1) _ fun F2 H2 g2 => hh F2 H2 σ ((R.step g1).step g2) _ fun F3 H3 g3 => ⟨s, Rp.inv_str r, hz, q _ F3 H3 ((g1.trans g2).trans g3) (.str _)⟩
theorem RpL.cut {F : Hp} {xs : List V} (r : RpL K F xs ds) : RpL K F (cutV xs lo hi) (cutD ds lo hi) := by
  unfold cutV cutD
  rw [r.length]
  exact (r.drop _).take _
theorem ev_slL (h : Ev K B te env (.ob (.lst ds))) (hl : EvO K B tl env lo) (hh : EvO K B th env hi) : Ev K B (tSl (rSlL K) te tl th) env (.nw (oM (.lst (cutD ds lo hi)))) := fun F H σ R Q q =>
  h F H σ R _ fun v F1 H1 g1 r => hl F1 H1 σ (R.step g1) _ fun F2 H2 g2 => hh F2 H2 σ ((R.step g1).step g2) _ fun F3 H3 g3 => by
    have g23 := g2.trans g3
    obtain ⟨p, xs, rfl, ex, r⟩ := (oB (.lst ds)).mono g23.fk g23.hk r
    exact ⟨p, xs, rfl, .inl (.inl ex), fun l hn => q _ F3 _ ((g1.trans g23).trans (Gr.new g3.kn hn)) ((nw_new g3.kn hn r.cut).back (g1.trans g23).mo)⟩
theorem ev_slT (h : Ev K B te env (.im (.tup ds))) (hl : EvO K B tl env lo) (hh : EvO K B th env hi) : Ev K B (tSl (rSlA K) te tl th) env (.im (.tup (cutD ds lo hi))) := fun F H σ R Q q =>
  h F H σ R _ fun v F1 H1 g1 r => hl F1 H1 σ (R.step g1) _ fun F2 H2 g2 => hh F2 H2 σ ((R.step g1).step g2) _ fun F3 H3 g3 => by
    have g23 := g2.trans g3
    obtain ⟨p, xs, rfl, ex, r⟩ := Rp.inv_tup (Rp.mono g23.fk r)
    refine ⟨p, xs, rfl, g3.kn.sqT ex, fun hw => ?_, fun _ l hn => ?_⟩
    · refine q _ F3 H3 (g1.trans g23) ?_
      have e : cutD ds lo hi = ds := by
        unfold cutD
        rw [← r.length, hw.1, hw.2, List.drop_zero, Nat.sub_zero, r.length, List.take_length]
      rw [e]
      exact .tup ex r
    · exact q _ _ _ ((g1.trans g23).trans (Gr.newF g3.kn hn)) (.tup (.inl (.inl upd_same)) (r.cut.mono (Gr.newF (o := .tup (cutV xs lo hi)) g3.kn hn).fk))
theorem ev_neg (h : Ev K B te env (.im (.int i))) : Ev K B (tUn (rU fun i => .int (-i)) te) env (.im (.int (-i))) :=
  ev_un h fun B F H x k ⟨_, hx⟩ Q q => ⟨i, Rp.inv_int hx, q _ F H (Gr.refl k) (.int _)⟩
end
theorem FnW.mono {P : Program} {w : World} {K : PySem.W.Frag} {mg : Str → Option Value} {base : Heap} {j k : Nat} {f : Addr} {fd : FuncData} {x : Str} {sp : WSp} (F : FnW P w K mg base j f fd x sp) (h : j ≤ k) : FnW P w K mg base k f fd x sp :=
  ⟨fun A outer s H args Q E p hr => F.run A outer s H args Q E p (hr.mono h)⟩
/-- a call within a lambda's body -/
theorem pe_fnL {X : Cx} {A : Around} {outer : List PySem.Env} {s : Shared} {H : Hp} {E : XK} {scope : Scope} {f c' : Addr} {k j : Nat} {x : Str} {ps : List Str} {sp : Sp} {e : Expr} {es : List Expr} {t : TA} {p pos : Pos} (F : FnAt X.prog X.w X.K X.mg X.base k x ps sp)
    (hr : Room j (A.deeper (LamX.lamEnv X scope s.heap.objs.size f c'))) (hk : k ≤ j) (hg : Gl (lamN X A outer s H E scope f c') x) (ha : PA (lamN X A outer s H E scope f c') (e :: es) t)
    (hdb : (x == ("__debug__" : Str)) = false := by decide) (he : starEach (e :: es) (lamN X A outer s H E scope f c').env = (false, eval e (lamN X A outer s H E scope f c').env) :: starEach es (lamN X A outer s H E scope f c').env := by rfl) (hpl : (backTo pos (starEach es (lamN X A outer s H E scope f c').env)).any (·.1) = false := by rfl) :
    PE (lamN X A outer s H E scope f c') (.Call (.Name x p) (e :: es) [] pos) (tCall sp [] E t) := by
  obtain ⟨a, fd, h1, h2, h3, h4⟩ := F.ex
  have tk := L2N.takes_of (X := lamN X A outer s H E scope f c') (E := E) rfl rfl rfl rfl
  exact pe_call h4 (hr.mono hk) hg h1 h2 h3 .nil (L2N.passes_call tk fun _ _ _ _ h => h) ha hdb he hpl
end NM
namespace NM
open PySem PySem.Spec PyProof.Rows L2
variable [Tbs]
/-! the words that take an expression's reading apart -/
local macro_rules | `(tactic| walk_at "v") => `(tactic| first
  | with_reducible exact ev_int
  | with_reducible exact ev_str
  | with_reducible exact ev_bool
  | with_reducible exact ev_non
  | (with_reducible apply ev_var; with_unfolding_all rfl)
  | (with_reducible apply ev_varO; with_unfolding_all rfl)
  | (with_reducible apply ev_varB; with_unfolding_all rfl)
  | with_reducible exact ev_cst
  | (with_reducible apply ev_add <;> walk_at "v")
  | (with_reducible apply ev_sub <;> walk_at "v")
  | (with_reducible apply ev_lt <;> walk_at "v")
  | (with_reducible apply ev_le <;> walk_at "v")
  | (with_reducible apply ev_gt <;> walk_at "v")
  | (with_reducible apply ev_ge <;> walk_at "v")
  | (with_reducible apply ev_eqI <;> walk_at "v")
  | (with_reducible apply ev_neI <;> walk_at "v")
  | (with_reducible apply ev_eqS <;> walk_at "v")
  | (with_reducible apply ev_neS <;> walk_at "v")
  | (with_reducible apply ev_isN <;> walk_at "v")
  | (with_reducible apply ev_notN <;> walk_at "v")
  | (with_reducible apply ev_notV <;> walk_at "v")
  | (with_reducible apply ev_mod <;> first | walk_at "v" | with_unfolding_all decide)
  | (with_reducible apply ev_div <;> first | walk_at "v" | (constructor <;> with_unfolding_all decide))
  | (with_reducible apply ev_ixT <;> first | walk_at "v" | with_unfolding_all rfl)
  | (with_reducible apply ev_ixL <;> first | walk_at "v" | with_unfolding_all rfl)
  | (with_reducible apply ev_abs <;> walk_at "a")
  | (with_reducible apply ev_max2 <;> walk_at "a")
  | (with_reducible apply ev_min2 <;> walk_at "a")
  | (with_reducible apply ev_intB <;> walk_at "a")
  | (with_reducible apply ev_isInt <;> walk_at "a")
  | (with_reducible apply ev_isBl <;> walk_at "a")
  | (with_reducible apply ev_isStr <;> walk_at "a")
  | (with_reducible apply ev_isTup <;> walk_at "a")
  | (with_reducible apply ev_isLst <;> walk_at "a")
  | (with_reducible apply ev_lenL <;> walk_at "a")
  | (with_reducible apply ev_lenT <;> walk_at "a")
  | (with_reducible apply ev_lenSc <;> walk_at "a")
  | (with_reducible apply ev_lenD <;> walk_at "a")
  | (with_reducible apply ev_sum <;> walk_at "a")
  | (with_reducible apply ev_all <;> walk_at "a")
  | (with_reducible apply ev_listL <;> walk_at "a")
  | (with_reducible apply ev_listD <;> walk_at "a")
  | (with_reducible apply ev_tupleL <;> walk_at "a")
  | (with_reducible apply ev_tup (e := by with_unfolding_all rfl) (hl := by exact Nat.le_of_ble_eq_true rfl) <;> walk_at "a")
  | (with_reducible apply ev_lst (e := by with_unfolding_all rfl) (hl := by exact Nat.le_of_ble_eq_true rfl) <;> walk_at "a")
  | (with_reducible apply ev_no <;> walk_at "v")
  | (with_reducible apply ev_ob <;> walk_at "v")
  | (with_reducible apply ev_im <;> walk_at "v"))
local macro_rules | `(tactic| walk_at "a") => `(tactic| first
  | with_reducible exact ea_nil
  | (with_reducible apply ea_cons; (walk_at "v"); (walk_at "a")))
local macro_rules | `(tactic| walk_at "t") => `(tactic| first
  | (with_reducible apply et_not <;> walk_at "t")
  | (with_reducible apply et_test <;> walk_at "v")
  | (with_reducible apply et_B <;> walk_at "v"))

def top (i : Nat) : Stmt := PySem.Challenge.pw_nearmarks_k10_points.main.body.getD i (.Pass ⟨0, 0, 0, 0⟩)
/-- a def of the top -/
abbrev Df (K : PySem.W.Frag) (mg : Str → Option Value) (x : Str) (i : Nat) : Prop := ∃ f fd, FunD K x x (defArgs (top i)) (defBody (top i)) (defScope (top i)) [] [] f fd ∧ mg x = some (.ref f)
structure Cn (K : PySem.W.Frag) (mg : Str → Option Value) : Prop where
  SMALL : ∃ t, mg "SMALL" = some (.str "abcdefghijklmnopqrstuvwxyz" t)
  MOST_WORD : ∃ t, mg "MOST_WORD" = some (.int 6 t)
  MOST_SIDE : ∃ t, mg "MOST_SIDE" = some (.int 4095 t)
  MOST_SIZE : ∃ t, mg "MOST_SIZE" = some (.int 13 t)
  REACHES : mg "REACHES" = some (.ref (He.ga K "REACHES")) ∧ ∀ H, SqT K H (He.ga K "REACHES") ([0, 1, 2, 4, 8, 16, 32, 64, 128, 256, 512, 1024, 2048, 4096].map V.int)
structure Exs (K : PySem.W.Frag) (mg : Str → Option Value) : Prop where
  BadName : Ex K mg "BadName" (He.ga K "BadName")
  BadPoint : Ex K mg "BadPoint" (He.ga K "BadPoint")
  BadSize : Ex K mg "BadSize" (He.ga K "BadSize")
section
variable {P : Program} {w : World} {K : PySem.W.Frag} {mg : Str → Option Value} {base : Heap} (fr : Free mg) (cn : Cn K mg) (ex : Exs K mg)
abbrev tk0 {X : Cx} := 0
/-! ### is_count -/
abbrev N_is_count : List Str := ["thing", "low", "high"]
theorem sc_is_count : FnScope N_is_count ["thing", "low", "high"] (defScope (top 13)) := ⟨rfl, rfl, rfl, by decide +kernel, rfl, by decide +kernel, by decide +kernel⟩
def isCount (d : D) (lo hi : Int) : Bool := match d with
  | .int i => decide (lo ≤ i) && decide (i ≤ hi)
  | _ => false
inductive S_is_count : List Vl → Res → Prop
  | mk (d : D) (lo hi : Int) : S_is_count [.im d, .im (.int lo), .im (.int hi)] (.ok (.im (.bl (isCount d lo hi))))
include fr in
theorem ok_is_count (D : Df K mg "is_count" 13) : FnAt P w K mg base 1 "is_count" ["thing", "low", "high"] (spX K S_is_count 3) := by
  obtain ⟨f, fd, F, hm⟩ := D
  have nd := sc_is_count.nd
  refine fn_ok F sc_is_count hm (fun _ _ _ _ _ _ us hl => match us, hl with | [_, _, _], _ => rfl) (by decide) fun cdv A outer s H E hr => ⟨_, (pss_one (ps_ret (pe_and (pe_callB call_isi rfl fr.isinstance (by decide +kernel) (pa_cons (pv 0) (pa_cons (pe_bltn rfl fr.int (by decide +kernel) (show RelV (.ty "int") _ from rfl)) pa_nil))) (pe_and (pe_not (pe_callB call_isi rfl fr.isinstance (by decide +kernel) (pa_cons (pv 0) (pa_cons (pe_bltn rfl fr.bool (by decide +kernel) (show RelV (.ty "bool") _ from rfl)) pa_nil)))) (pe_one (pe_chain op_le op_le (pv 1) (pv 0) (pv 2))))))), fun rs res hl sp B => ?_⟩
  obtain ⟨d, lo, hi⟩ := sp
  dsimp only [cxOf, List.map, toSl, N_is_count, List.length_cons, List.length_nil, Nat.reduceAdd, Nat.reduceSub, List.replicate_succ, List.replicate_zero, List.cons_append, List.nil_append]
  cases d with
  | int i => exact sx_retE ⟨rfl, trivial⟩ (ev_andV (by walk_at "v") fun _ => ev_andV (by walk_at "v") fun _ => ev_chain (by walk_at "v") (by walk_at "v") fun _ => by walk_at "v") (by rfl)
  | bl b => exact sx_retE ⟨rfl, trivial⟩ (ev_andV (by walk_at "v") fun _ => ev_andV (q := true) (by walk_at "v") fun z => by cases z) (by rfl)
  | _ => exact sx_retE ⟨rfl, trivial⟩ (ev_andV (q := true) (by walk_at "v") fun z => by cases z) (by rfl)

/-! ### is_name -/
def small : Str := "abcdefghijklmnopqrstuvwxyz"
def isNameS (s : Str) : Bool := decide (1 ≤ (s.length : Int)) && decide ((s.length : Int) ≤ 6) && (s.cps.toList.map fun c => decide (c ∈ small.cps.toList)).all id
def isName (d : D) : Bool := match d with
  | .str s => isNameS s
  | _ => false
/-- texts within the line -/
def Short (d : D) : Prop := ∀ s, d = .str s → s.length ≤ sizeLine
abbrev N_is_name : List Str := ["thing", "sign"]
theorem sc_is_name : FnScope N_is_name ["thing"] (defScope (top 14)) := ⟨rfl, rfl, rfl, by decide +kernel, rfl, by decide +kernel, by decide +kernel⟩
inductive S_is_name : List Vl → Res → Prop
  | mk (d : D) (h : Short d) : S_is_name [.im d] (.ok (.im (.bl (isName d))))
include fr cn in
theorem ok_is_name (D : Df K mg "is_name" 14) : FnAt P w K mg base 1 "is_name" ["thing"] (spX K S_is_name 1) := by
  obtain ⟨f, fd, F, hm⟩ := D
  have nd := sc_is_name.nd
  refine fn_ok F sc_is_name hm (fun _ _ _ _ _ _ us hl => match us, hl with | [_], _ => rfl) (by decide) fun cdv A outer s H E hr => ⟨_, (pss_one (ps_ret (pe_and (pe_callB call_isi rfl fr.isinstance (by decide +kernel) (pa_cons (pv 0) (pa_cons (pe_bltn rfl fr.str (by decide +kernel) (show RelV (.ty "str") _ from rfl)) pa_nil))) (pe_and (pe_chain op_le op_le pe_int (pe_callB call_len rfl fr.len (by decide +kernel) (pa_cons (pv 0) pa_nil)) (pe_glob (v := .int 6) rfl cn.MOST_WORD.choose_spec ⟨_, rfl⟩)) (pe_one (pe_callB (cr_all rfl) rfl fr.all (by decide +kernel) (pa_cons (pe_lc (own := [("sign", 1)]) rfl nd (pi_str (pv 0)) (blkOk_by (N := N_is_name) (sc := (defScope (top 14))) (by decide +kernel)) (fun _ _ _ _ _ => (pg_name (i := 1) nd rfl (by first | exact Or.inl rfl | exact Or.inr rfl))) (fun _ _ _ _ _ => pts_nil) (fun _ _ _ _ _ => (pe_cmpR op_in_sign (pv 1) (pe_glob (v := .str "abcdefghijklmnopqrstuvwxyz") rfl cn.SMALL.choose_spec ⟨_, rfl⟩) (by rfl)))) pa_nil))))))), fun rs res hl sp B => ?_⟩
  obtain ⟨d, h⟩ := sp
  dsimp only [cxOf, List.map, toSl, N_is_name, List.length_cons, List.length_nil, Nat.reduceAdd, Nat.reduceSub, List.replicate_succ, List.replicate_zero, List.cons_append, List.nil_append]
  cases d with
  | str s =>
    have hs := h s rfl
    have hall : ∀ te : TE, (∀ c : Nat, Ev K B te [Sl.im (D.str s), Sl.im (.str (sign c))] (.im (.bl (decide (c ∈ small.cps.toList))))) → Ev K B (tLc (iStr (tVar 0)) (gName 1) tYes te [1]) [Sl.im (D.str s), Sl.un] (.ob (.lst ((s.cps.toList.map fun c => decide (c ∈ small.cps.toList)).map .bl))) := fun te h => by
      rw [List.map_map]
      refine ev_no (ev_lcA1 (enc := fun c => D.str (sign c)) (fun c => D.bl (decide (c ∈ small.cps.toList))) (EvF.i (ef_str (ev_var rfl))) (fun c _ => h c) ?_)
      rw [Array.length_toList]
      exact hs
    refine sx_retE ⟨rfl, trivial⟩ (ev_andV (by walk_at "v") fun _ => ev_andV (ev_chain (by walk_at "v") (ev_lenS (by walk_at "a") hs) fun _ => by walk_at "v") fun _ => ev_all (ea_cons (hall _ fun c => ev_inSg (by walk_at "v") ev_str) ea_nil)) ?_
    rfl
  | _ => exact sx_retE ⟨rfl, trivial⟩ (ev_andV (q := true) (by walk_at "v") fun z => by cases z) (by rfl)
/-! ### need_name -/
abbrev N_need_name : List Str := ["thing"]
theorem sc_need_name : FnScope N_need_name ["thing"] (defScope (top 15)) := ⟨rfl, rfl, rfl, by decide +kernel, rfl, by decide +kernel, by decide +kernel⟩
inductive S_need (C : Addr) (p : D → Bool) : List Vl → Res → Prop
  | ok (d : D) (h : Short d) (e : p d = true) : S_need C p [.im d] (.ok (.im .non))
  | ex (d : D) (h : Short d) (e : p d = false) : S_need C p [.im d] (.ex C)
include ex in
theorem ok_need_name (D : Df K mg "need_name" 15) (g_is_name : FnAt P w K mg base 1 "is_name" ["thing"] (spX K S_is_name 1)) : FnAt P w K mg base 2 "need_name" ["thing"] (spX K (S_need (He.ga K "BadName") isName) 1) := by
  obtain ⟨f, fd, F, hm⟩ := D
  have nd := sc_need_name.nd
  refine fn_ok F sc_need_name hm (fun _ _ _ _ _ _ us hl => match us, hl with | [_], _ => rfl) (by decide) fun cdv A outer s H E hr => ?_
  have tk := L2N.takes_of (X := cxOf (L2N.CX P w) P w K mg base N_need_name "need_name" (defScope (top 15)) f cdv A outer s H E) (E := E) rfl rfl rfl rfl
  refine ⟨_, (pss_one (ps_if (pt_not (pt_val (pe_fn g_is_name hr (by decide) rfl (pa_cons (pv 0) pa_nil)))) (pss_one (L2N.ps_raise rfl tk (L2N.pmk_own PySem.F.excBase_ValueError (ex.BadName).x (ex.BadName).g (ex.BadName).k (raises_own (ex.BadName).b (ex.BadName).t) rfl))) pss_nil)), fun rs res hl sp B => ?_⟩
  dsimp only [cxOf]
  rcases sp with ⟨d, h, e⟩ | ⟨d, h, e⟩
  · dsimp only [List.map, toSl, N_need_name, List.length_cons, List.length_nil, Nat.reduceAdd, Nat.reduceSub, List.replicate_succ, List.replicate_zero, List.cons_append, List.nil_append]
    refine sx_if (et_not (et_B (ev_call (by walk_at "a") (fun r hr => by simp at hr; subst hr; trivial) (S_is_name.mk d h) trivial))) (fun z => ?_) fun _ => sx_next rfl
    rw [e] at z
    cases z
  · dsimp only [List.map, toSl, N_need_name, List.length_cons, List.length_nil, Nat.reduceAdd, Nat.reduceSub, List.replicate_succ, List.replicate_zero, List.cons_append, List.nil_append]
    refine sx_if (et_not (et_B (ev_call (by walk_at "a") (fun r hr => by simp at hr; subst hr; trivial) (S_is_name.mk d h) trivial))) (fun _ => sx_raise rfl) fun z => ?_
    rw [e] at z
    cases z
/-! ### need_size -/
abbrev N_need_size : List Str := ["thing"]
theorem sc_need_size : FnScope N_need_size ["thing"] (defScope (top 17)) := ⟨rfl, rfl, rfl, by decide +kernel, rfl, by decide +kernel, by decide +kernel⟩
def isSize (d : D) : Bool := isCount d 0 13
include ex cn in
theorem ok_need_size (D : Df K mg "need_size" 17) (g_is_count : FnAt P w K mg base 1 "is_count" ["thing", "low", "high"] (spX K S_is_count 3)) : FnAt P w K mg base 2 "need_size" ["thing"] (spX K (S_need (He.ga K "BadSize") isSize) 1) := by
  obtain ⟨f, fd, F, hm⟩ := D
  have nd := sc_need_size.nd
  refine fn_ok F sc_need_size hm (fun _ _ _ _ _ _ us hl => match us, hl with | [_], _ => rfl) (by decide) fun cdv A outer s H E hr => ?_
  have tk := L2N.takes_of (X := cxOf (L2N.CX P w) P w K mg base N_need_size "need_size" (defScope (top 17)) f cdv A outer s H E) (E := E) rfl rfl rfl rfl
  refine ⟨_, (pss_one (ps_if (pt_not (pt_val (pe_fn g_is_count hr (by decide) rfl (pa_cons (pv 0) (pa_cons pe_int (pa_cons (pe_glob (v := .int 13) rfl cn.MOST_SIZE.choose_spec ⟨_, rfl⟩) pa_nil)))))) (pss_one (L2N.ps_raise rfl tk (L2N.pmk_own PySem.F.excBase_ValueError (ex.BadSize).x (ex.BadSize).g (ex.BadSize).k (raises_own (ex.BadSize).b (ex.BadSize).t) rfl))) pss_nil)), fun rs res hl sp B => ?_⟩
  have cnt : ∀ d : NM.D, EvT K B (tB (tCall (spX K S_is_count 3) [] E0 (tCons (tVar 0) (tCons (tC (.int 0)) (tCons (tC (.int 13)) tNil))))) [Sl.im d] (isCount d 0 13) := fun d => et_B (ev_call (by walk_at "a") (fun r hr => by simp at hr; rcases hr with rfl | rfl | rfl <;> trivial) (S_is_count.mk d 0 13) trivial)
  rcases sp with ⟨d, h, e⟩ | ⟨d, h, e⟩
  · dsimp only [cxOf, List.map, toSl, N_need_size, List.length_cons, List.length_nil, Nat.reduceAdd, Nat.reduceSub, List.replicate_succ, List.replicate_zero, List.cons_append, List.nil_append]
    refine sx_if (et_not (cnt d)) (fun z => ?_) fun _ => sx_next rfl
    rw [show isCount d 0 13 = true from e] at z
    cases z
  · dsimp only [cxOf, List.map, toSl, N_need_size, List.length_cons, List.length_nil, Nat.reduceAdd, Nat.reduceSub, List.replicate_succ, List.replicate_zero, List.cons_append, List.nil_append]
    refine sx_if (et_not (cnt d)) (fun _ => sx_raise rfl) fun z => ?_
    rw [show isCount d 0 13 = false from e] at z
    cases z
/-! ### need_point -/
abbrev N_need_point : List Str := ["thing", "one"]
theorem sc_need_point : FnScope N_need_point ["thing"] (defScope (top 16)) := ⟨rfl, rfl, rfl, by decide +kernel, rfl, by decide +kernel, by decide +kernel⟩
def isPoint (d : D) : Bool := match d with
  | .tup [a, b] => isCount a 0 4095 && isCount b 0 4095
  | _ => false
include fr ex cn in
theorem ok_need_point (D : Df K mg "need_point" 16) (g_is_count : FnAt P w K mg base 1 "is_count" ["thing", "low", "high"] (spX K S_is_count 3)) : FnAt P w K mg base 2 "need_point" ["thing"] (spX K (S_need (He.ga K "BadPoint") isPoint) 1) := by
  obtain ⟨f, fd, F, hm⟩ := D
  have nd := sc_need_point.nd
  refine fn_ok F sc_need_point hm (fun _ _ _ _ _ _ us hl => match us, hl with | [_], _ => rfl) (by decide) fun cdv A outer s H E hr => ?_
  have tk := L2N.takes_of (X := cxOf (L2N.CX P w) P w K mg base N_need_point "need_point" (defScope (top 16)) f cdv A outer s H E) (E := E) rfl rfl rfl rfl
  refine ⟨_, (pss_one (ps_if (PW.pt (pw_or (pt_not (pt_val (pe_callB call_isi rfl fr.isinstance (by decide +kernel) (pa_cons (pv 0) (pa_cons (pe_bltn rfl fr.tuple (by decide +kernel) (show RelV (.ty "tuple") _ from rfl)) pa_nil))))) (pw_or (pt_cmpR op_ne (pe_callB call_len rfl fr.len (by decide +kernel) (pa_cons (pv 0) pa_nil)) pe_int (nomark _)) (pw_or1 (pt_not (pt_val (pe_callB (cr_all rfl) rfl fr.all (by decide +kernel) (pa_cons (pe_lc (own := [("one", 1)]) rfl nd (pi_tup (pv 0)) (blkOk_by (N := N_need_point) (sc := (defScope (top 16))) (by decide +kernel)) (fun _ _ _ _ _ => (pg_name (i := 1) nd rfl (by first | exact Or.inl rfl | exact Or.inr rfl))) (fun _ _ _ _ _ => pts_nil) (fun _ _ _ _ _ => (pe_fn g_is_count hr (by decide) rfl (pa_cons (pv 1) (pa_cons pe_int (pa_cons (pe_glob (v := .int 4095) rfl cn.MOST_SIDE.choose_spec ⟨_, rfl⟩) pa_nil)))))) pa_nil)))))))) (pss_one (L2N.ps_raise rfl tk (L2N.pmk_own PySem.F.excBase_ValueError (ex.BadPoint).x (ex.BadPoint).g (ex.BadPoint).k (raises_own (ex.BadPoint).b (ex.BadPoint).t) rfl))) pss_nil)), fun rs res hl sp B => ?_⟩
  have cnt : ∀ d x : NM.D, Ev K B (tCall (spX K S_is_count 3) [] E0 (tCons (tVar 1) (tCons (tC (.int 0)) (tCons (tC (.int 4095)) tNil)))) [Sl.im d, Sl.im x] (.im (.bl (isCount x 0 4095))) := fun d x => ev_call (by walk_at "a") (fun r hr => by simp at hr; rcases hr with rfl | rfl | rfl <;> trivial) (S_is_count.mk x 0 4095) trivial
  have two : ∀ a b : NM.D, Ev K B (tLc (iTup K (tVar 0)) (gName 1) tYes (tCall (spX K S_is_count 3) [] E0 (tCons (tVar 1) (tCons (tC (.int 0)) (tCons (tC (.int 4095)) tNil)))) [1]) [Sl.im (.tup [a, b]), Sl.un] (.ob (.lst ([isCount a 0 4095, isCount b 0 4095].map .bl))) := fun a b =>
    ev_no (ev_lcA1 (xs := [a, b]) (enc := fun d => d) (fun x => .bl (isCount x 0 4095)) (EvF.i (ef_tup (ev_var rfl))) (fun x _ => cnt _ x) (by show 2 ≤ sizeLine; decide))
  have main : ∀ d : NM.D, (isPoint d = false → ∀ t P, Sx K B (fun cls d _ H => E cls d H) t [Sl.im d, Sl.un] P → True) := fun _ _ _ _ _ => trivial
  rcases sp with ⟨d, h, e⟩ | ⟨d, h, e⟩
  · dsimp only [cxOf, List.map, toSl, N_need_point, List.length_cons, List.length_nil, Nat.reduceAdd, Nat.reduceSub, List.replicate_succ, List.replicate_zero, List.cons_append, List.nil_append]
    have hd : ∃ a b, d = .tup [a, b] ∧ isCount a 0 4095 = true ∧ isCount b 0 4095 = true := by
      unfold isPoint at e
      split at e
      · rename_i a b
        rw [Bool.and_eq_true] at e
        exact ⟨a, b, rfl, e.1, e.2⟩
      · cases e
    obtain ⟨a, b, rfl, ea, eb⟩ := hd
    refine sx_if (et_or (et_not (et_B (by walk_at "v"))) fun _ => et_or (et_test (ev_neI (ev_lenT (by walk_at "a")) ev_int)) fun _ => et_not (et_B (ev_all (ea_cons (two a b) ea_nil)))) (fun z => ?_) fun _ => sx_next rfl
    rw [ea, eb] at z
    cases z
  · dsimp only [cxOf, List.map, toSl, N_need_point, List.length_cons, List.length_nil, Nat.reduceAdd, Nat.reduceSub, List.replicate_succ, List.replicate_zero, List.cons_append, List.nil_append]
    by_cases ht : isTup d = true
    · cases d with
      | tup ds =>
        by_cases hl2 : (ds.length : Int) = 2
        · match ds, hl2, e with
          | [a, b], _, e =>
            refine sx_if (et_or (et_not (et_B (by walk_at "v"))) fun _ => et_or (et_test (ev_neI (ev_lenT (by walk_at "a")) ev_int)) fun _ => et_not (et_B (ev_all (ea_cons (two a b) ea_nil)))) (fun _ => sx_raise rfl) fun z => ?_
            have e' : (isCount a 0 4095 && isCount b 0 4095) = false := e
            cases ea : isCount a 0 4095 <;> cases eb : isCount b 0 4095 <;> rw [ea, eb] at z e' <;> first | (cases z; done) | (cases e'; done)
          | [], z, _ => simp at z
          | [_], z, _ => simp at z
          | _ :: _ :: _ :: _, z, _ => simp at z; omega
        · refine sx_if (et_or (et_not (et_B (by walk_at "v"))) fun _ => et_or (q := true) (et_test (ev_neI (ev_lenT (by walk_at "a")) ev_int)) fun z => ?_) (fun _ => sx_raise rfl) fun z => ?_
          · rw [decide_eq_false hl2] at z
            cases z
          · rw [decide_eq_false hl2] at z
            cases z
      | _ => cases ht
    · refine sx_if (et_or (q := true) (et_not (et_B (by walk_at "v"))) fun z => ?_) (fun _ => sx_raise rfl) fun z => ?_
      · rw [Bool.eq_false_iff.mpr ht] at z
        cases z
      · rw [Bool.eq_false_iff.mpr ht] at z
        cases z
/-! ### reach, apart -/
abbrev N_reach : List Str := ["size"]
theorem sc_reach : FnScope N_reach ["size"] (defScope (top 18)) := ⟨rfl, rfl, rfl, by decide +kernel, rfl, by decide +kernel, by decide +kernel⟩
def reaches : List Int := [0, 1, 2, 4, 8, 16, 32, 64, 128, 256, 512, 1024, 2048, 4096]
def reachN (k : Nat) : Int := reaches.getD k 0
inductive S_reach : List Vl → Res → Prop
  | mk (k : Nat) (h : k < 14) : S_reach [.im (.int k)] (.ok (.im (.int (reachN k))))
include cn in
theorem ok_reach (D : Df K mg "reach" 18) : FnAt P w K mg base 1 "reach" ["size"] (spX K S_reach 1) := by
  obtain ⟨f, fd, F, hm⟩ := D
  have nd := sc_reach.nd
  refine fn_ok F sc_reach hm (fun _ _ _ _ _ _ us hl => match us, hl with | [_], _ => rfl) (by decide) fun cdv A outer s H E hr => ?_
  have tk := L2N.takes_of (X := cxOf (L2N.CX P w) P w K mg base N_reach "reach" (defScope (top 18)) f cdv A outer s H E) (E := E) rfl rfl rfl rfl
  refine ⟨_, (pss_one (ps_ret (pe_ix ix_tup (pe_glob (v := .ref (He.ga K "REACHES")) rfl cn.REACHES.1 rfl) (pv 0) (fun _ _ => rfl)))), fun rs res hl sp B => ?_⟩
  obtain ⟨k, h⟩ := sp
  dsimp only [cxOf, List.map, toSl, N_reach, List.length_cons, List.length_nil, Nat.reduceAdd, Nat.reduceSub, List.replicate_succ, List.replicate_zero, List.cons_append, List.nil_append]
  refine sx_retE ⟨rfl, trivial⟩ (ev_ixT (ds := reaches.map .int) (i := k) (ev_refT cn.REACHES.2 fun F => RpL.of_ints _) (by walk_at "v") (atI_nat (v := .int (reachN k)) ?_)) (by rfl)
  rw [List.getElem?_map]
  unfold reachN
  rw [List.getD_eq_getElem?_getD, List.getElem?_eq_getElem (show k < reaches.length from h)]
  rfl
abbrev N_apart : List Str := ["one", "other"]
theorem sc_apart : FnScope N_apart ["one", "other"] (defScope (top 19)) := ⟨rfl, rfl, rfl, by decide +kernel, rfl, by decide +kernel, by decide +kernel⟩
def ptD (a b : Int) : D := .tup [.int a, .int b]
def iabs (i : Int) : Int := if i < 0 then -i else i
def cheb (a b c d : Int) : Int := max (iabs (a - c)) (iabs (b - d))
inductive S_apart : List Vl → Res → Prop
  | mk (a b c d : Int) : S_apart [.im (ptD a b), .im (ptD c d)] (.ok (.im (.int (cheb a b c d))))
include fr in
theorem ok_apart (D : Df K mg "apart" 19) : FnAt P w K mg base 1 "apart" ["one", "other"] (spX K S_apart 2) := by
  obtain ⟨f, fd, F, hm⟩ := D
  have nd := sc_apart.nd
  refine fn_ok F sc_apart hm (fun _ _ _ _ _ _ us hl => match us, hl with | [_, _], _ => rfl) (by decide) fun cdv A outer s H E hr => ?_
  have tk := L2N.takes_of (X := cxOf (L2N.CX P w) P w K mg base N_apart "apart" (defScope (top 19)) f cdv A outer s H E) (E := E) rfl rfl rfl rfl
  refine ⟨_, (pss_one (ps_ret (pe_callB (call_max2 rfl) rfl fr.max (by decide +kernel) (pa_cons (pe_callB call_abs rfl fr.abs (by decide +kernel) (pa_cons (pe_op op_sub (pe_ix ix_tup (pv 0) pe_int (fun _ _ => rfl)) (pe_ix ix_tup (pv 1) pe_int (fun _ _ => rfl))) pa_nil)) (pa_cons (pe_callB call_abs rfl fr.abs (by decide +kernel) (pa_cons (pe_op op_sub (pe_ix ix_tup (pv 0) pe_int (fun _ _ => rfl)) (pe_ix ix_tup (pv 1) pe_int (fun _ _ => rfl))) pa_nil)) pa_nil))))), fun rs res hl sp B => ?_⟩
  obtain ⟨a, b, c, d⟩ := sp
  dsimp only [cxOf, List.map, toSl, N_apart, List.length_cons, List.length_nil, Nat.reduceAdd, Nat.reduceSub, List.replicate_succ, List.replicate_zero, List.cons_append, List.nil_append]
  exact sx_retE ⟨rfl, trivial⟩ (d' := .int (max (if a - c < 0 then -(a - c) else a - c) (if b - d < 0 then -(b - d) else b - d))) (by walk_at "v") (by rfl)
/-! ### far, near_size -/
abbrev N_far : List Str := ["one", "other"]
theorem sc_far : FnScope N_far ["one", "other"] (defScope (top 20)) := ⟨rfl, rfl, rfl, by decide +kernel, rfl, by decide +kernel, by decide +kernel⟩
inductive S_far (C : Addr) (r : Int → Vl) : List Vl → Res → Prop
  | ok (a b c d : Int) (h1 : isPoint (ptD a b) = true) (h2 : isPoint (ptD c d) = true) : S_far C r [.im (ptD a b), .im (ptD c d)] (.ok (r (cheb a b c d)))
  | ex1 (d e : D) (s1 : Short d) (s2 : Short e) (h : isPoint d = false) : S_far C r [.im d, .im e] (.ex C)
  | ex2 (d e : D) (s1 : Short d) (s2 : Short e) (h1 : isPoint d = true) (h2 : isPoint e = false) : S_far C r [.im d, .im e] (.ex C)
theorem short_pt (a b : Int) : Short (ptD a b) := fun s z => by cases z
theorem flat1 {d : D} : ∀ r ∈ [Vl.im d], Flat r := fun r hr => by simp at hr; subst hr; trivial
theorem flat2 {d e : D} : ∀ r ∈ [Vl.im d, Vl.im e], Flat r := fun r hr => by simp at hr; rcases hr with rfl | rfl <;> trivial
theorem flat3 {d e g : D} : ∀ r ∈ [Vl.im d, Vl.im e, Vl.im g], Flat r := fun r hr => by simp at hr; rcases hr with rfl | rfl | rfl <;> trivial
theorem ok_far (D : Df K mg "far" 20) (g_need_point : FnAt P w K mg base 2 "need_point" ["thing"] (spX K (S_need (He.ga K "BadPoint") isPoint) 1)) (g_apart : FnAt P w K mg base 1 "apart" ["one", "other"] (spX K S_apart 2)) : FnAt P w K mg base 3 "far" ["one", "other"] (spX K (S_far (He.ga K "BadPoint") fun n => .im (.int n)) 2) := by
  obtain ⟨f, fd, F, hm⟩ := D
  have nd := sc_far.nd
  refine fn_ok F sc_far hm (fun _ _ _ _ _ _ us hl => match us, hl with | [_, _], _ => rfl) (by decide) fun cdv A outer s H E hr => ?_
  have tk := L2N.takes_of (X := cxOf (L2N.CX P w) P w K mg base N_far "far" (defScope (top 20)) f cdv A outer s H E) (E := E) rfl rfl rfl rfl
  refine ⟨_, (pss_cons (ps_expr (pe_fnS g_need_point hr (by decide) rfl tk (pa_cons (pv 0) pa_nil)))
      (pss_cons (ps_expr (pe_fnS g_need_point hr (by decide) rfl tk (pa_cons (pv 1) pa_nil)))
      (pss_one (ps_ret (pe_fn g_apart hr (by decide) rfl (pa_cons (pv 0) (pa_cons (pv 1) pa_nil))))))), fun rs res hl sp B => ?_⟩
  rcases sp with ⟨a, b, c, d, h1, h2⟩ | ⟨d, e, s1, s2, h⟩ | ⟨d, e, s1, s2, h1, h2⟩
  · dsimp only [cxOf, List.map, toSl, N_far, List.length_cons, List.length_nil, Nat.reduceAdd, Nat.reduceSub, List.replicate_succ, List.replicate_zero, List.cons_append, List.nil_append]
    refine sx_seq (sx_call (by walk_at "a") flat1 (S_need.ok _ (short_pt a b) h1) ⟨trivial, ?_⟩)
    refine sx_seq (sx_call (by walk_at "a") flat1 (S_need.ok _ (short_pt c d) h2) ⟨trivial, ?_⟩)
    exact sx_retE ⟨rfl, trivial⟩ (ev_call (by walk_at "a") flat2 (S_apart.mk a b c d) trivial) rfl
  · dsimp only [cxOf, List.map, toSl, N_far, List.length_cons, List.length_nil, Nat.reduceAdd, Nat.reduceSub, List.replicate_succ, List.replicate_zero, List.cons_append, List.nil_append]
    exact sx_seq (sx_call (by walk_at "a") flat1 (S_need.ex _ s1 h) rfl)
  · dsimp only [cxOf, List.map, toSl, N_far, List.length_cons, List.length_nil, Nat.reduceAdd, Nat.reduceSub, List.replicate_succ, List.replicate_zero, List.cons_append, List.nil_append]
    refine sx_seq (sx_call (by walk_at "a") flat1 (S_need.ok _ s1 h1) ⟨trivial, ?_⟩)
    exact sx_seq (sx_call (by walk_at "a") flat1 (S_need.ex _ s2 h2) rfl)
abbrev N_near_size : List Str := ["one", "other", "size"]
theorem sc_near_size : FnScope N_near_size ["one", "other"] (defScope (top 21)) := ⟨rfl, rfl, rfl, by decide +kernel, rfl, by decide +kernel, by decide +kernel⟩
/-- the least size at which n is within reach -/
def nearK (n : Int) : List Nat := (List.range 14).filter fun k => decide (n ≤ reachN k)
theorem cheb_le {a b c d : Int} (h1 : isPoint (ptD a b) = true) (h2 : isPoint (ptD c d) = true) : cheb a b c d ≤ 4095 := by
  have k1 : isCount (.int a) 0 4095 = true ∧ isCount (.int b) 0 4095 = true := by
    have z : (isCount (.int a) 0 4095 && isCount (.int b) 0 4095) = true := h1
    rwa [Bool.and_eq_true] at z
  have k2 : isCount (.int c) 0 4095 = true ∧ isCount (.int d) 0 4095 = true := by
    have z : (isCount (.int c) 0 4095 && isCount (.int d) 0 4095) = true := h2
    rwa [Bool.and_eq_true] at z
  obtain ⟨x1, x2⟩ := k1
  obtain ⟨x3, x4⟩ := k2
  simp only [isCount, Bool.and_eq_true, decide_eq_true_eq] at x1 x2 x3 x4
  unfold cheb iabs
  split <;> split <;> omega
theorem nearK_ne {n : Int} (h : n ≤ 4095) : nearK n ≠ [] := fun z => by
  have m : 13 ∈ nearK n := List.mem_filter.mpr ⟨by simp, by
    have e : reachN 13 = 4096 := by rfl
    rw [e]
    exact decide_eq_true (by omega)⟩
  rw [z] at m
  cases m
def nearSz (n : Int) : Nat := (nearK n).headD 0
theorem nearK_get {n : Int} (h : n ≤ 4095) : (nearK n)[0]? = some (nearSz n) := by
  have z := nearK_ne h
  unfold nearSz
  cases e : nearK n with
  | nil => exact absurd e z
  | cons k r => rfl
theorem ok_near_size (fr : Free mg) (cn : Cn K mg) (D : Df K mg "near_size" 21) (g_need_point : FnAt P w K mg base 2 "need_point" ["thing"] (spX K (S_need (He.ga K "BadPoint") isPoint) 1)) (g_apart : FnAt P w K mg base 1 "apart" ["one", "other"] (spX K S_apart 2)) (g_reach : FnAt P w K mg base 1 "reach" ["size"] (spX K S_reach 1)) :
    FnAt P w K mg base 3 "near_size" ["one", "other"] (spX K (S_far (He.ga K "BadPoint") fun n => .im (.int (nearSz n : Nat))) 2) := by
  obtain ⟨f, fd, F, hm⟩ := D
  have nd := sc_near_size.nd
  refine fn_ok F sc_near_size hm (fun _ _ _ _ _ _ us hl => match us, hl with | [_, _], _ => rfl) (by decide) fun cdv A outer s H E hr => ?_
  have tk := L2N.takes_of (X := cxOf (L2N.CX P w) P w K mg base N_near_size "near_size" (defScope (top 21)) f cdv A outer s H E) (E := E) rfl rfl rfl rfl
  refine ⟨_, (pss_cons (ps_expr (pe_fnS g_need_point hr (by decide) rfl tk (pa_cons (pv 0) pa_nil)))
      (pss_cons (ps_expr (pe_fnS g_need_point hr (by decide) rfl tk (pa_cons (pv 1) pa_nil)))
      (pss_one (ps_ret (pe_ix ix_list (pe_lc (own := [("size", 2)]) rfl nd (pi_range1 rfl fr.range (pa_cons (pe_op op_add (pe_glob (v := .int 13) rfl cn.MOST_SIZE.choose_spec ⟨_, rfl⟩) pe_int) pa_nil)) (blkOk_by (N := N_near_size) (sc := (defScope (top 21))) (by decide +kernel)) (fun _ _ _ _ _ => (pg_name (i := 2) nd rfl (by first | exact Or.inl rfl | exact Or.inr rfl))) (fun _ _ _ _ _ => (pts_one (pt_cmpR op_le (pe_fn g_apart hr (by decide) rfl (pa_cons (pv 0) (pa_cons (pv 1) pa_nil))) (pe_fn g_reach hr (by decide) rfl (pa_cons (pv 2) pa_nil)) (nomark _)))) (fun _ _ _ _ _ => (pv 2))) pe_int (fun _ _ => rfl)))))), fun rs res hl sp B => ?_⟩
  rcases sp with ⟨a, b, c, d, h1, h2⟩ | ⟨d, e, s1, s2, h⟩ | ⟨d, e, s1, s2, h1, h2⟩
  · dsimp only [cxOf, List.map, toSl, N_near_size, List.length_cons, List.length_nil, Nat.reduceAdd, Nat.reduceSub, List.replicate_succ, List.replicate_zero, List.cons_append, List.nil_append]
    refine sx_seq (sx_call (by walk_at "a") flat1 (S_need.ok _ (short_pt a b) h1) ⟨trivial, ?_⟩)
    refine sx_seq (sx_call (by walk_at "a") flat1 (S_need.ok _ (short_pt c d) h2) ⟨trivial, ?_⟩)
    refine sx_retE ⟨rfl, trivial⟩ (ev_ixL (ds := ((nearK (cheb a b c d)).map fun k : Nat => NM.D.int k)) (i := (0 : Nat)) (ev_no (ev_lc1 (xs := List.range 14) (enc := fun k : Nat => .int k) (fun k => decide (cheb a b c d ≤ reachN k)) (fun k => .int k) ?_ (fun k hk => ?_) (fun k _ _ => by walk_at "v") ?_)) ev_int (atI_nat ?_)) rfl
    · exact EvF.i (ef_range1 (j := 14) (ea_cons (ev_is (ev_add ev_int ev_int) rfl) ea_nil) (by decide) (by decide) (by decide))
    · exact et_test (ev_le (ev_call (by walk_at "a") flat2 (S_apart.mk a b c d) trivial) (ev_call (by walk_at "a") flat1 (S_reach.mk k (List.mem_range.mp hk)) trivial))
    · show 14 ≤ sizeLine
      decide
    · rw [List.getElem?_map, nearK_get (cheb_le h1 h2)]
      rfl
  · dsimp only [cxOf, List.map, toSl, N_near_size, List.length_cons, List.length_nil, Nat.reduceAdd, Nat.reduceSub, List.replicate_succ, List.replicate_zero, List.cons_append, List.nil_append]
    exact sx_seq (sx_call (by walk_at "a") flat1 (S_need.ex _ s1 h) rfl)
  · dsimp only [cxOf, List.map, toSl, N_near_size, List.length_cons, List.length_nil, Nat.reduceAdd, Nat.reduceSub, List.replicate_succ, List.replicate_zero, List.cons_append, List.nil_append]
    refine sx_seq (sx_call (by walk_at "a") flat1 (S_need.ok _ s1 h1) ⟨trivial, ?_⟩)
    exact sx_seq (sx_call (by walk_at "a") flat1 (S_need.ex _ s2 h2) rfl)
/-! ### the law's own: cells, drawn numbers, points, how far -/
abbrev N__law_cell : List Str := ["_law_script", "_law_k"]
theorem sc__law_cell : FnScope N__law_cell ["_law_script", "_law_k"] (defScope (top 23)) := ⟨rfl, rfl, rfl, by decide +kernel, rfl, by decide +kernel, by decide +kernel⟩
def cellV (ns : List Int) (k : Nat) : Int := if ns = [] then (k : Int) * 7919 else ns.getD (k % ns.length) 0 + (k : Int) / (ns.length : Int) * 104729
inductive S_cell : List Vl → Res → Prop
  | mk (ns : List Int) (k : Nat) (hn : ns.length ≤ 63) (hk : k ≤ 63) : S_cell [.lo (oS ns), .im (.int k)] (.ok (.im (.int (cellV ns k))))
theorem ok__law_cell (fr : Free mg) (D : Df K mg "_law_cell" 23) : FnAt P w K mg base 1 "_law_cell" ["_law_script", "_law_k"] (spX K S_cell 2) := by
  obtain ⟨f, fd, F, hm⟩ := D
  have nd := sc__law_cell.nd
  refine fn_ok F sc__law_cell hm (fun _ _ _ _ _ _ us hl => match us, hl with | [_, _], _ => rfl) (by decide) fun cdv A outer s H E hr => ?_
  have tk := L2N.takes_of (X := cxOf (L2N.CX P w) P w K mg base N__law_cell "_law_cell" (defScope (top 23)) f cdv A outer s H E) (E := E) rfl rfl rfl rfl
  refine ⟨_, (pss_cons (ps_if (pt_cmpR (op_eqD hr.units) (pv 0) (pe_lst pa_nil) (nomark _)) (pss_one (ps_ret (pe_op op_mul (pv 1) pe_int))) pss_nil)
      (pss_one (ps_ret (pe_op op_add (pe_ix ix_list (pv 0) (pe_op op_mod (pv 1) (pe_callB call_len rfl fr.len (by decide +kernel) (pa_cons (pv 0) pa_nil))) (fun _ _ => rfl)) (pe_op op_mul (pe_op op_fdiv (pv 1) (pe_callB call_len rfl fr.len (by decide +kernel) (pa_cons (pv 0) pa_nil))) pe_int))))), fun rs res hl sp B => ?_⟩
  obtain ⟨ns, k, hn, hk⟩ := sp
  dsimp only [cxOf, List.map, toSl, N__law_cell, List.length_cons, List.length_nil, Nat.reduceAdd, Nat.reduceSub, List.replicate_succ, List.replicate_zero, List.cons_append, List.nil_append]
  have m1 : CMul (k : Int) 7919 := .inl (by constructor <;> omega)
  by_cases h : ns = []
  · refine sx_seq (sx_if (et_test (ev_eqSc0 (ev_varB rfl) (ev_no (ev_lst (rs := []) ea_nil)))) (fun _ => ?_) fun z => ?_)
    · refine sx_retE ⟨rfl, trivial⟩ (ev_mul (by walk_at "v") ev_int m1) ?_
      unfold cellV
      rw [if_pos h]
    · rw [decide_eq_true h] at z
      cases z
  · have hl : 0 < ns.length := List.length_pos_iff.mpr h
    refine sx_seq (sx_if (et_test (ev_eqSc0 (ev_varB rfl) (ev_no (ev_lst (rs := []) ea_nil)))) (fun z => ?_) fun _ => sx_next ?_)
    · rw [decide_eq_false h] at z
      cases z
    · have hlt : k % ns.length < ns.length := Nat.mod_lt _ hl
      have hq : (k : Int) / (ns.length : Int) = ((k / ns.length : Nat) : Int) := by norm_cast
      have hb : k / ns.length ≤ k := Nat.div_le_self _ _
      refine sx_retE ⟨rfl, trivial⟩ (ev_add (ev_ixSc (n := ns.getD (k % ns.length) 0) (ev_varB rfl) (ev_mod (by walk_at "v") (ev_lenSc (ea_cons (ev_varB rfl) ea_nil)) (by omega)) ?_) (ev_mul (ev_div (by walk_at "v") (ev_lenSc (ea_cons (ev_varB rfl) ea_nil)) ⟨by omega, by omega⟩) ev_int (.inl ?_))) ?_
      · have e : (k : Int) % (ns.length : Int) = ((k % ns.length : Nat) : Int) := by norm_cast
        rw [e]
        refine atI_nat ?_
        rw [List.getD_eq_getElem?_getD, List.getElem?_eq_getElem hlt]
        rfl
      · have h0 : 0 ≤ (k : Int) / (ns.length : Int) := Int.ediv_nonneg (by omega) (by omega)
        constructor <;> omega
      · unfold cellV
        rw [if_neg h]
abbrev N__law_drawn : List Str := ["_law_cell_here", "_law_k", "_law_more"]
theorem sc__law_drawn : FnScope N__law_drawn ["_law_cell_here", "_law_k"] (defScope (top 24)) := ⟨rfl, rfl, rfl, by decide +kernel, rfl, by decide +kernel, by decide +kernel⟩
def p1 : Int := 340282366920938463463374607431768211507
def p2 : Int := 340282366920938463463374607431768211297
def q1 : Int := 18446744073709551557
def dr1 (c : Int) (k : Nat) : Int := (c * 6364136223846793005 + ((k : Int) + 1) * 1442695040888963407) % p1
def dr2 (c : Int) (k : Nat) : Int := dr1 c k * dr1 c k % p2
def drawnV (c : Int) (k : Nat) : Int := ((dr2 c k % q1 + 1) * (dr2 c k / q1 + 1) * dr2 c k) % p1
theorem drawn_ge (c : Int) (k : Nat) : 0 ≤ drawnV c k := Int.emod_nonneg _ (by decide)
inductive S_drawn : List Vl → Res → Prop
  | mk (c : Int) (k : Nat) (hk : k ≤ 1000) : S_drawn [.im (.int c), .im (.int k)] (.ok (.im (.int (drawnV c k))))
theorem ok__law_drawn (D : Df K mg "_law_drawn" 24) : FnAt P w K mg base 1 "_law_drawn" ["_law_cell_here", "_law_k"] (spX K S_drawn 2) := by
  obtain ⟨f, fd, F, hm⟩ := D
  have nd := sc__law_drawn.nd
  refine fn_ok F sc__law_drawn hm (fun _ _ _ _ _ _ us hl => match us, hl with | [_, _], _ => rfl) (by decide) fun cdv A outer s H E hr => ?_
  have tk := L2N.takes_of (X := cxOf (L2N.CX P w) P w K mg base N__law_drawn "_law_drawn" (defScope (top 24)) f cdv A outer s H E) (E := E) rfl rfl rfl rfl
  refine ⟨_, (pss_cons (ps_set (i := 2) nd rfl (by first | exact Or.inl rfl | exact Or.inr rfl) (pe_op op_mod (pe_op op_add (pe_op op_mul (pv 0) pe_int) (pe_op op_mul (pe_op op_add (pv 1) pe_int) pe_int)) pe_int))
      (pss_cons (ps_set (i := 2) nd rfl (by first | exact Or.inl rfl | exact Or.inr rfl) (pe_op op_mod (pe_op op_mulW (pv 2) (pv 2)) pe_int))
      (pss_cons (ps_set (i := 2) nd rfl (by first | exact Or.inl rfl | exact Or.inr rfl) (pe_op op_mulW (pe_op op_mulW (pe_op op_add (pe_op op_mod (pv 2) pe_int) pe_int) (pe_op op_add (pe_op op_fdivW (pv 2) pe_int) pe_int)) (pv 2)))
      (pss_one (ps_ret (pe_op op_mod (pv 2) pe_int)))))), fun rs res hl sp B => ?_⟩
  obtain ⟨c, k, hk⟩ := sp
  dsimp only [cxOf, List.map, toSl, N__law_drawn, List.length_cons, List.length_nil, Nat.reduceAdd, Nat.reduceSub, List.replicate_succ, List.replicate_zero, List.cons_append, List.nil_append]
  have b1 : (dr1 c k).natAbs < 2 ^ 129 := by
    have x1 : 0 ≤ dr1 c k := Int.emod_nonneg _ (by decide)
    have x2 : dr1 c k < p1 := Int.emod_lt_of_pos _ (by decide)
    have x3 : p1 < 2 ^ 129 := by decide
    omega
  have n2 : 0 ≤ dr2 c k := Int.emod_nonneg _ (by decide)
  have b2 : (dr2 c k).natAbs < 2 ^ 128 := by
    have x2 : dr2 c k < p2 := Int.emod_lt_of_pos _ (by decide)
    have x3 : p2 < 2 ^ 128 := by decide
    omega
  have b3 : (dr2 c k % q1 + 1).natAbs < 2 ^ 65 := by
    have x1 : 0 ≤ dr2 c k % q1 := Int.emod_nonneg _ (by decide)
    have x2 : dr2 c k % q1 < q1 := Int.emod_lt_of_pos _ (by decide)
    have x3 : q1 < 2 ^ 64 := by decide
    omega
  have b4 : (dr2 c k / q1 + 1).natAbs < 2 ^ 129 := by
    have x1 : 0 ≤ dr2 c k / q1 := Int.ediv_nonneg n2 (by decide)
    have x2 : dr2 c k / q1 ≤ dr2 c k := Int.ediv_le_self _ n2
    omega
  refine sx_seq (sx_asg (d := .int (dr1 c k)) (ev_is (ev_mod (ev_add (ev_mul (by walk_at "v") ev_int (.inr (by decide))) (ev_mul (by walk_at "v") ev_int (.inr (by decide)))) ev_int (by decide)) rfl) ?_)
  refine sx_seq (sx_asg (d := .int (dr2 c k)) (ev_is (ev_mod (ev_mulW (ev_var (d := .int (dr1 c k)) rfl) (ev_var (d := .int (dr1 c k)) rfl) (wide_mul b1 b1 (by decide) (by decide) (by decide))) ev_int (by decide)) rfl) ?_)
  refine sx_seq (sx_asg (d := .int ((dr2 c k % q1 + 1) * (dr2 c k / q1 + 1) * dr2 c k)) (ev_mulW (ev_mulW (ev_add (ev_mod (ev_var (d := .int (dr2 c k)) rfl) ev_int (by decide)) ev_int)
    (ev_add (ev_divW (ev_var (d := .int (dr2 c k)) rfl) ev_int (wide_div (b := 64) (by decide) (by decide) (by decide) (by decide))) ev_int) (wide_mul b3 b4 (by decide) (by decide) (by decide))) (ev_var (d := .int (dr2 c k)) rfl) (wide_mul (wide_lt b3 b4) b2 (by decide) (by decide) (by decide))) ?_)
  exact sx_retE ⟨rfl, trivial⟩ (ev_mod (ev_var rfl) ev_int (by decide)) rfl
abbrev N__law_point : List Str := ["_law_more", "_law_here", "_law_by"]
theorem sc__law_point : FnScope N__law_point ["_law_more"] (defScope (top 27)) := ⟨rfl, rfl, rfl, by decide +kernel, rfl, by decide +kernel, by decide +kernel⟩
def byL : List Int := [1, 3, 10, 100]
def byV (h : Int) : Int := byL.getD (h / 2 ^ 24 % 4).toNat 0
def ptX (m : Int) : Int := if m % 4 = 0 then m / 8 % 4096 else m / 8 % 12 * byV (m / 8)
def ptY (m : Int) : Int := if m % 4 = 0 then m / 8 / 4096 % 4096 else m / 8 / 16 % 12 * byV (m / 8)
theorem byV_le (h : Int) : 1 ≤ byV h ∧ byV h ≤ 100 := by
  have x1 : 0 ≤ h / 2 ^ 24 % 4 := Int.emod_nonneg _ (by decide)
  have x2 : h / 2 ^ 24 % 4 < 4 := Int.emod_lt_of_pos _ (by decide)
  have e : (h / 2 ^ 24 % 4).toNat < 4 := by omega
  unfold byV
  have key : ∀ n, n < 4 → 1 ≤ byL.getD n 0 ∧ byL.getD n 0 ≤ 100 := by decide
  exact key _ e
theorem ptX_le (m : Int) : 0 ≤ ptX m ∧ ptX m ≤ 4095 := by
  unfold ptX
  obtain ⟨b1, b2⟩ := byV_le (m / 8)
  have x1 : 0 ≤ m / 8 % 12 := Int.emod_nonneg _ (by decide)
  have x2 : m / 8 % 12 < 12 := Int.emod_lt_of_pos _ (by decide)
  split
  · omega
  · constructor
    · exact Int.mul_nonneg x1 (by omega)
    · have := Int.mul_le_mul (show m / 8 % 12 ≤ 11 by omega) b2 (by omega) (by omega)
      omega
theorem ptY_le (m : Int) : 0 ≤ ptY m ∧ ptY m ≤ 4095 := by
  unfold ptY
  obtain ⟨b1, b2⟩ := byV_le (m / 8)
  have x1 : 0 ≤ m / 8 / 16 % 12 := Int.emod_nonneg _ (by decide)
  have x2 : m / 8 / 16 % 12 < 12 := Int.emod_lt_of_pos _ (by decide)
  split
  · omega
  · constructor
    · exact Int.mul_nonneg x1 (by omega)
    · have := Int.mul_le_mul (show m / 8 / 16 % 12 ≤ 11 by omega) b2 (by omega) (by omega)
      omega
theorem isPoint_of {a b : Int} (h1 : 0 ≤ a ∧ a ≤ 4095) (h2 : 0 ≤ b ∧ b ≤ 4095) : isPoint (ptD a b) = true := by
  show (isCount (.int a) 0 4095 && isCount (.int b) 0 4095) = true
  simp [isCount, h1, h2]
inductive S_point : List Vl → Res → Prop
  | mk (m : Int) : S_point [.im (.int m)] (.ok (.im (ptD (ptX m) (ptY m))))
theorem ok__law_point (D : Df K mg "_law_point" 27) : FnAt P w K mg base 1 "_law_point" ["_law_more"] (spX K S_point 1) := by
  obtain ⟨f, fd, F, hm⟩ := D
  have nd := sc__law_point.nd
  refine fn_ok F sc__law_point hm (fun _ _ _ _ _ _ us hl => match us, hl with | [_], _ => rfl) (by decide) fun cdv A outer s H E hr => ?_
  have tk := L2N.takes_of (X := cxOf (L2N.CX P w) P w K mg base N__law_point "_law_point" (defScope (top 27)) f cdv A outer s H E) (E := E) rfl rfl rfl rfl
  refine ⟨_, (pss_cons (ps_set (i := 1) nd rfl (by first | exact Or.inl rfl | exact Or.inr rfl) (pe_op op_fdiv (pv 0) pe_int))
      (pss_cons (ps_if (pt_cmpR op_eq (pe_op op_mod (pv 0) pe_int) pe_int (nomark _)) (pss_one (ps_ret (pe_tup (pa_cons (pe_op op_mod (pv 1) pe_int) (pa_cons (pe_op op_mod (pe_op op_fdiv (pv 1) pe_int) pe_int) pa_nil))))) pss_nil)
      (pss_cons (ps_set (i := 2) nd rfl (by first | exact Or.inl rfl | exact Or.inr rfl) (pe_ix ix_list (pe_lst (pa_cons pe_int (pa_cons pe_int (pa_cons pe_int (pa_cons pe_int pa_nil))))) (pe_op op_mod (pe_op op_fdiv (pv 1) (pe_op op_pow pe_int pe_int)) pe_int) (fun _ _ => rfl)))
      (pss_one (ps_ret (pe_tup (pa_cons (pe_op op_mul (pe_op op_mod (pv 1) pe_int) (pv 2)) (pa_cons (pe_op op_mul (pe_op op_mod (pe_op op_fdiv (pv 1) pe_int) pe_int) (pv 2)) pa_nil)))))))), fun rs res hl sp B => ?_⟩
  obtain ⟨m⟩ := sp
  dsimp only [cxOf, List.map, toSl, N__law_point, List.length_cons, List.length_nil, Nat.reduceAdd, Nat.reduceSub, List.replicate_succ, List.replicate_zero, List.cons_append, List.nil_append]
  refine sx_seq (sx_asg (ev_div (by walk_at "v") ev_int ⟨by decide, by decide⟩) ?_)
  have pw : (2 : Int) ^ (24 : Int).toNat = 2 ^ 24 := rfl
  by_cases h : m % 4 = 0
  · refine sx_seq (sx_if (et_test (ev_eqI (ev_mod (ev_var rfl) ev_int (by decide)) ev_int)) (fun _ => ?_) fun z => ?_)
    · refine sx_retE ⟨rfl, trivial⟩ (ev_tup (ea_cons (ev_mod (ev_var (d := .int (m / 8)) rfl) ev_int (by decide)) (ea_cons (ev_mod (ev_div (ev_var (d := .int (m / 8)) rfl) ev_int ⟨by decide, by decide⟩) ev_int (by decide)) ea_nil))) ?_
      unfold ptX ptY
      rw [if_pos h, if_pos h]
      rfl
    · rw [decide_eq_true h] at z
      cases z
  · refine sx_seq (sx_if (et_test (ev_eqI (ev_mod (ev_var rfl) ev_int (by decide)) ev_int)) (fun z => ?_) fun _ => sx_next ?_)
    · rw [decide_eq_false h] at z
      cases z
    · have x1 : 0 ≤ m / 8 / 2 ^ 24 % 4 := Int.emod_nonneg _ (by decide)
      have x2 : m / 8 / 2 ^ 24 % 4 < 4 := Int.emod_lt_of_pos _ (by decide)
      have hat : L2.atI (byL.map NM.D.int) (m / 8 / (2 : Int) ^ (24 : Int).toNat % 4) = some (.int (byV (m / 8))) := by
        rw [pw]
        have e : m / 8 / 2 ^ 24 % 4 = (((m / 8 / 2 ^ 24 % 4).toNat : Nat) : Int) := by omega
        rw [e]
        refine atI_nat ?_
        have e4 : (m / 8 / 2 ^ 24 % 4).toNat < byL.length := by
          show _ < 4
          omega
        rw [List.getElem?_map, List.getElem?_eq_getElem e4]
        unfold byV
        rw [List.getD_eq_getElem?_getD, List.getElem?_eq_getElem e4]
        rfl
      refine sx_seq (sx_asg (d := .int (byV (m / 8))) (ev_ixL (ds := byL.map .int) (ev_no (ev_lst (rs := [.im (.int 1), .im (.int 3), .im (.int 10), .im (.int 100)]) (by walk_at "a")))
        (ev_mod (ev_div (ev_var (d := .int (m / 8)) rfl) (ev_pow ev_int ev_int ⟨by decide, by decide, by decide⟩) ⟨by decide, by decide⟩) ev_int (by decide)) hat) ?_)
      obtain ⟨b1, b2⟩ := byV_le (m / 8)
      have y1 : 0 ≤ m / 8 % 12 := Int.emod_nonneg _ (by decide)
      have y2 : m / 8 % 12 < 12 := Int.emod_lt_of_pos _ (by decide)
      have y3 : 0 ≤ m / 8 / 16 % 12 := Int.emod_nonneg _ (by decide)
      have y4 : m / 8 / 16 % 12 < 12 := Int.emod_lt_of_pos _ (by decide)
      refine sx_retE ⟨rfl, trivial⟩ (ev_tup (ea_cons (ev_mul (ev_mod (ev_var (d := .int (m / 8)) rfl) ev_int (by decide)) (ev_var (d := .int (byV (m / 8))) rfl) (.inl ⟨by omega, by omega⟩))
        (ea_cons (ev_mul (ev_mod (ev_div (ev_var (d := .int (m / 8)) rfl) ev_int ⟨by decide, by decide⟩) ev_int (by decide)) (ev_var (d := .int (byV (m / 8))) rfl) (.inl ⟨by omega, by omega⟩)) ea_nil))) ?_
      unfold ptX ptY
      rw [if_neg h, if_neg h]
      rfl
abbrev N__law_far : List Str := ["_law_one", "_law_other"]
theorem sc__law_far : FnScope N__law_far ["_law_one", "_law_other"] (defScope (top 28)) := ⟨rfl, rfl, rfl, by decide +kernel, rfl, by decide +kernel, by decide +kernel⟩
theorem sort2 (x y : Int) : (sortO [x, y])[1]? = some (max x y) := by
  have e : sortO [x, y] = if x ≤ y then [x, y] else [y, x] := by
    have h : leO x y = decide (x ≤ y) := by
      show (!decide (y < x)) = decide (x ≤ y)
      by_cases h : x ≤ y
      · rw [decide_eq_true h, decide_eq_false (by omega)]
        rfl
      · rw [decide_eq_false h, decide_eq_true (by omega)]
        rfl
    unfold sortO
    rw [show [x, y].mergeSort leO = if leO x y then [x, y] else [y, x] by simp [List.mergeSort, List.MergeSort.Internal.splitInTwo, List.merge], h]
    by_cases h : x ≤ y
    · simp [h]
    · simp [h]
  rw [e]
  by_cases h : x ≤ y
  · rw [if_pos h]
    show some y = some (max x y)
    rw [show max x y = y by omega]
  · rw [if_neg h]
    show some x = some (max x y)
    rw [show max x y = x by omega]
theorem int_toD (x : Int) : (PySem.W.Datum.toD x : PyData) = .int x := rfl
inductive S_lfar : List Vl → Res → Prop
  | mk (a b c d : Int) : S_lfar [.im (ptD a b), .im (ptD c d)] (.ok (.im (.int (cheb a b c d))))
theorem ok__law_far (fr : Free mg) (D : Df K mg "_law_far" 28) : FnAt P w K mg base 1 "_law_far" ["_law_one", "_law_other"] (spX K S_lfar 2) := by
  obtain ⟨f, fd, F, hm⟩ := D
  have nd := sc__law_far.nd
  refine fn_ok F sc__law_far hm (fun _ _ _ _ _ _ us hl => match us, hl with | [_, _], _ => rfl) (by decide) fun cdv A outer s H E hr => ?_
  have tk := L2N.takes_of (X := cxOf (L2N.CX P w) P w K mg base N__law_far "_law_far" (defScope (top 28)) f cdv A outer s H E) (E := E) rfl rfl rfl rfl
  refine ⟨_, (pss_one (ps_ret (pe_ix ix_list (pe_callB (cr_sortedG hr.units) rfl fr.sorted (by decide +kernel) (pa_cons (pe_lst (pa_cons (pe_callB call_abs rfl fr.abs (by decide +kernel) (pa_cons (pe_op op_sub (pe_ix ix_tup (pv 0) pe_int (fun _ _ => rfl)) (pe_ix ix_tup (pv 1) pe_int (fun _ _ => rfl))) pa_nil)) (pa_cons (pe_callB call_abs rfl fr.abs (by decide +kernel) (pa_cons (pe_op op_sub (pe_ix ix_tup (pv 0) pe_int (fun _ _ => rfl)) (pe_ix ix_tup (pv 1) pe_int (fun _ _ => rfl))) pa_nil)) pa_nil))) pa_nil)) pe_int (fun _ _ => rfl)))), fun rs res hl sp B => ?_⟩
  obtain ⟨a, b, c, d⟩ := sp
  dsimp only [cxOf, List.map, toSl, N__law_far, List.length_cons, List.length_nil, Nat.reduceAdd, Nat.reduceSub, List.replicate_succ, List.replicate_zero, List.cons_append, List.nil_append]
  refine sx_retE ⟨rfl, trivial⟩ (d' := .int (cheb a b c d)) (ev_ixL (ds := (sortO [iabs (a - c), iabs (b - d)]).map .int) (i := (1 : Nat)) (ev_no (ev_sorted (n := 0) (enc := NM.D.int) (xs := [iabs (a - c), iabs (b - d)]) (fun x => by simp [py, int_toD]) (fun _ _ => trivial) (by decide) (.inr fun x ds z => by rw [int_toD] at z; cases z)
    (ea_cons (ev_no (ev_lst (rs := [.im (.int (iabs (a - c))), .im (.int (iabs (b - d)))]) (ea_cons (ev_abs (ea_cons (ev_sub (by walk_at "v") (by walk_at "v")) ea_nil)) (ea_cons (ev_abs (ea_cons (ev_sub (by walk_at "v") (by walk_at "v")) ea_nil)) ea_nil)))) ea_nil))) ev_int (atI_nat ?_)) rfl
  rw [List.getElem?_map, sort2]
  rfl
abbrev N__law_near : List Str := ["_law_one", "_law_other", "_law_size", "_law_most"]
theorem sc__law_near : FnScope N__law_near ["_law_one", "_law_other", "_law_size"] (defScope (top 29)) := ⟨rfl, rfl, rfl, by decide +kernel, rfl, by decide +kernel, by decide +kernel⟩
inductive S_lnear : List Vl → Res → Prop
  | mk (a b c d : Int) (k : Nat) (h : k < 14) : S_lnear [.im (ptD a b), .im (ptD c d), .im (.int k)] (.ok (.im (.bl (decide (cheb a b c d ≤ reachN k)))))
theorem ok__law_near (D : Df K mg "_law_near" 29) (g__law_far : FnAt P w K mg base 1 "_law_far" ["_law_one", "_law_other"] (spX K S_lfar 2)) : FnAt P w K mg base 2 "_law_near" ["_law_one", "_law_other", "_law_size"] (spX K S_lnear 3) := by
  obtain ⟨f, fd, F, hm⟩ := D
  have nd := sc__law_near.nd
  refine fn_ok F sc__law_near hm (fun _ _ _ _ _ _ us hl => match us, hl with | [_, _, _], _ => rfl) (by decide) fun cdv A outer s H E hr => ?_
  have tk := L2N.takes_of (X := cxOf (L2N.CX P w) P w K mg base N__law_near "_law_near" (defScope (top 29)) f cdv A outer s H E) (E := E) rfl rfl rfl rfl
  refine ⟨_, (pss_cons (ps_set (i := 3) nd rfl (by first | exact Or.inl rfl | exact Or.inr rfl) (pe_ix ix_list (pe_lst (pa_cons pe_int (pa_cons pe_int (pa_cons pe_int (pa_cons pe_int (pa_cons pe_int (pa_cons pe_int (pa_cons pe_int (pa_cons pe_int (pa_cons pe_int (pa_cons pe_int (pa_cons pe_int (pa_cons pe_int (pa_cons pe_int (pa_cons pe_int pa_nil))))))))))))))) (pv 2) (fun _ _ => rfl)))
      (pss_one (ps_ret (pe_cmpR op_le (pe_fn g__law_far hr (by decide) rfl (pa_cons (pv 0) (pa_cons (pv 1) pa_nil))) (pv 3) (nomark _))))), fun rs res hl sp B => ?_⟩
  obtain ⟨a, b, c, d, k, h⟩ := sp
  dsimp only [cxOf, List.map, toSl, N__law_near, List.length_cons, List.length_nil, Nat.reduceAdd, Nat.reduceSub, List.replicate_succ, List.replicate_zero, List.cons_append, List.nil_append]
  have hat : L2.atI (reaches.map NM.D.int) (k : Int) = some (.int (reachN k)) := atI_nat (by
    rw [List.getElem?_map]
    unfold reachN
    rw [List.getD_eq_getElem?_getD, List.getElem?_eq_getElem (show k < reaches.length from h)]
    rfl)
  refine sx_seq (sx_asg (d := .int (reachN k)) (ev_ixL (ds := reaches.map .int) (ev_no (ev_lst (rs := (reaches.map NM.D.int).map .im) (show EvA K B _ _ [.im (.int 0), .im (.int 1), .im (.int 2), .im (.int 4), .im (.int 8), .im (.int 16), .im (.int 32), .im (.int 64), .im (.int 128), .im (.int 256), .im (.int 512), .im (.int 1024), .im (.int 2048), .im (.int 4096)] by walk_at "a"))) (by walk_at "v") hat) ?_)
  exact sx_retE ⟨rfl, trivial⟩ (ev_le (ev_call (by walk_at "a") flat2 (S_lfar.mk a b c d) trivial) (ev_var (d := .int (reachN k)) rfl)) rfl
/-! ### the word -/
abbrev N__law_word : List Str := ["_law_e", "_law_flags", "_law_flag"]
theorem sc__law_word : FnScope N__law_word ["_law_e"] (defScope (top 25)) := ⟨rfl, rfl, rfl, by decide +kernel, rfl, by decide +kernel, by decide +kernel⟩
def names5 : List Str := ["BadHeap", "BadName", "BadPoint", "BadSize", "BadText"]
def words (K : PySem.W.Frag) : List (Str × Addr) := names5.map fun x => (x, He.ga K x)
def wspec (K : PySem.W.Frag) : WSp := fun p H Q => ∃ (nm : Str) (C : Addr) (F : Hp), (nm, C) ∈ words K ∧ Zc (.ref C) none p.2 ∧ (∃ vs, p.2.data = .fields vs) ∧ Kn F H ∧ LamX.Tabs Tbs.T H ∧ ∀ v F' H', Gr F F' H H' → Rp K F' v (wordD nm) → Q v H'
def b2z (b : Bool) : Int := if b then 1 else 0
/-- what the word's body does with the flags -/
theorem flags_of (nm : Str) (h : nm ∈ names5) : ∃ j : Nat, names5[j]? = some nm ∧ (names5.map fun x => decide (nm = x))[j]? = some true ∧ (∀ m, m < j → (names5.map fun x => decide (nm = x))[m]? = some false) ∧ ((names5.map fun x => decide (nm = x)).map b2z).sum = 1 := by
  simp only [names5, List.mem_cons, List.not_mem_nil, or_false] at h
  rcases h with rfl | rfl | rfl | rfl | rfl
  · exact ⟨0, rfl, by decide, by decide, by decide⟩
  · exact ⟨1, rfl, by decide, by decide, by decide⟩
  · exact ⟨2, rfl, by decide, by decide, by decide⟩
  · exact ⟨3, rfl, by decide, by decide, by decide⟩
  · exact ⟨4, rfl, by decide, by decide, by decide⟩
theorem fin_of {K : PySem.W.Frag} {H F0 : Hp} {t : TS} {env : NM.Env} {σ : L2.St} {d : NM.D} {Q : VK} (h : Sx K H (fun _ _ _ _ => False) t env (endP (.ok (.im d)))) (R : RelS K H H F0 F0 H σ env) (q : ∀ v F' H', Gr F0 F' H H' → Rp K F' v d → Q v H') : t { nx := fun _ H' => Q .non H', rt := Q } σ H := by
  refine h H F0 F0 H σ R _ fun o h => ?_
  cases o with
  | rt r =>
    obtain ⟨e, b⟩ := h
    cases e
    exact fun F' H' v g y => q v F' H' g y
  | nx e =>
    cases h
    intro F' H' σ' R'
    obtain ⟨Os, R'⟩ := R'
    exact q .non F' H' R'.gr .non
  | ex C => cases h
  | bk e => exact h.elim
  | ct e => exact h.elim
theorem ok__law_word (fr : Free mg) (wd : Words K mg (words K)) {f : Addr} {fd : FuncData} (F : FunD K "_law_word" "_law_word" (defArgs (top 25)) (defBody (top 25)) (defScope (top 25)) [] [] f fd) : FnW P w K mg base 1 f fd "_law_e" (wspec K) := by
  have nd := sc__law_word.nd
  obtain ⟨oc, od, dV, kV, doc, pm, an, cdv, ct, osl, rfl, lk, hcd, _, _⟩ := F.ex
  refine fnw_of lk hcd sc__law_word fun A outer s H Q E p hot hr hsp => ?_
  obtain ⟨nm, C, F0, hm, hz, hf, kn, tb, q⟩ := hsp
  have xc := wd.exc _ hm
  refine ⟨_, (pss_cons (ps_set (i := 1) nd rfl (by first | exact Or.inl rfl | exact Or.inr rfl) (pe_lst (pa_cons (pe_callB (call_isP List.mem_cons_self xc hz hf) rfl fr.isinstance (by decide +kernel) (pa_cons (pv 0) (pa_cons (pe_glob (v := .ref (He.ga K "BadHeap")) rfl (wd.gl ("BadHeap", He.ga K "BadHeap") (List.mem_map.mpr ⟨"BadHeap", by simp [names5], rfl⟩)) rfl) pa_nil))) (pa_cons (pe_callB (call_isP List.mem_cons_self xc hz hf) rfl fr.isinstance (by decide +kernel) (pa_cons (pv 0) (pa_cons (pe_glob (v := .ref (He.ga K "BadName")) rfl (wd.gl ("BadName", He.ga K "BadName") (List.mem_map.mpr ⟨"BadName", by simp [names5], rfl⟩)) rfl) pa_nil))) (pa_cons (pe_callB (call_isP List.mem_cons_self xc hz hf) rfl fr.isinstance (by decide +kernel) (pa_cons (pv 0) (pa_cons (pe_glob (v := .ref (He.ga K "BadPoint")) rfl (wd.gl ("BadPoint", He.ga K "BadPoint") (List.mem_map.mpr ⟨"BadPoint", by simp [names5], rfl⟩)) rfl) pa_nil))) (pa_cons (pe_callB (call_isP List.mem_cons_self xc hz hf) rfl fr.isinstance (by decide +kernel) (pa_cons (pv 0) (pa_cons (pe_glob (v := .ref (He.ga K "BadSize")) rfl (wd.gl ("BadSize", He.ga K "BadSize") (List.mem_map.mpr ⟨"BadSize", by simp [names5], rfl⟩)) rfl) pa_nil))) pa_nil))))))
      (pss_cons (ps_set (i := 1) nd rfl (by first | exact Or.inl rfl | exact Or.inr rfl) (pe_op op_cat (pv 1) (pe_lst (pa_cons (pe_callB (call_isP List.mem_cons_self xc hz hf) rfl fr.isinstance (by decide +kernel) (pa_cons (pv 0) (pa_cons (pe_glob (v := .ref (He.ga K "BadText")) rfl (wd.gl ("BadText", He.ga K "BadText") (List.mem_map.mpr ⟨"BadText", by simp [names5], rfl⟩)) rfl) pa_nil))) pa_nil))))
      (pss_cons (ps_if (PW.pt (pw_or (pt_cmpR op_ne (pe_callB (cr_sumH hot List.mem_cons_self) rfl fr.sum (by decide +kernel) (pa_cons (pe_lcH (own := [("_law_flag", 2)]) hot List.mem_cons_self nd (pv 1) (blkOk_by (N := N__law_word) (sc := (defScope (top 25))) (by decide +kernel)) (fun _ _ _ _ _ => (pg_name (i := 2) nd rfl (by first | exact Or.inl rfl | exact Or.inr rfl))) (fun _ _ _ _ _ => (pe_callTy call_int1 rfl fr.int (by decide +kernel) (pa_cons (pv 2) pa_nil)))) pa_nil)) pe_int (nomark _)) (pw_or1 (pt_not (pt_val (pe_callB (call_isP List.mem_cons_self xc hz hf) rfl fr.isinstance (by decide +kernel) (pa_cons (pv 0) (pa_cons (pe_bltn rfl fr.ValueError (by decide +kernel) (show RelV (.ty "ValueError") _ from rfl)) pa_nil)))))))) (pss_one (ps_ret (pe_tup (pa_cons pe_str (pa_cons pe_str pa_nil))))) pss_nil)
      (pss_one (ps_ret (pe_tup (pa_cons pe_str (pa_cons (pe_ix ix_list (pe_lst (pa_cons pe_str (pa_cons pe_str (pa_cons pe_str (pa_cons pe_str (pa_cons pe_str pa_nil)))))) (pe_bm PySem.F.plainAttrs_list PySem.F.slot_list_index PySem.F.type_list_index mt_index (pv 1) (pa_cons pe_bl pa_nil)) (fun _ _ => rfl)) pa_nil)))))))), ?_⟩
  dsimp only [cxOf, L2H.cxH]
  have hnm : nm ∈ names5 ∧ C = He.ga K nm := by
    obtain ⟨x, hx, e⟩ := List.mem_map.mp hm
    cases e
    exact ⟨hx, rfl⟩
  obtain ⟨j, j1, j2, j3, j4⟩ := flags_of nm hnm.1
  have kit : ∀ x, x ∈ names5 → PySem.W.kitOne K (.ref C) (.ref (He.ga K x)) = some (decide (nm = x)) := fun x hx => wd.kit _ hm (x, He.ga K x) (List.mem_map.mpr ⟨x, hx, rfl⟩)
  have is1 : ∀ x, x ∈ names5 → ∀ env : NM.Env, env[0]? = some (.br (oV (.ref p.1))) → Ev K H (tCB (rIsE K C p.1) (tCons (tVar 0) (tCons (tC (.ref (He.ga K x))) tNil))) env (.im (.bl (decide (nm = x)))) := fun x hx env he =>
    ev_isE (ea_cons (ev_varB he) (ea_cons ev_cst ea_nil)) (.own _) (kit x hx)
  have R := start_rel (K := K) (N := N__law_word) (ps := ["_law_e"]) (rs := [.lo (oV (.ref p.1))]) (vs := [.ref p.1]) kn tb (.cons rfl .nil) rfl (by decide)
  refine fin_of (env := [.br (oV (.ref p.1)), .un, .un]) ?_ R q
  focus
    refine sx_seq (sx_asgW (ev_lst (rs := [.im (.bl (decide (nm = "BadHeap"))), .im (.bl (decide (nm = "BadName"))), .im (.bl (decide (nm = "BadPoint"))), .im (.bl (decide (nm = "BadSize")))])
      (ea_cons (is1 _ (by simp [names5]) _ rfl) (ea_cons (is1 _ (by simp [names5]) _ rfl) (ea_cons (is1 _ (by simp [names5]) _ rfl) (ea_cons (is1 _ (by simp [names5]) _ rfl) ea_nil))))) ?_)
    refine sx_seq (sx_asgW (ev_cat (ev_varO rfl) (ev_no (ev_lst (rs := [.im (.bl (decide (nm = "BadText")))]) (ea_cons (is1 _ (by simp [names5]) _ rfl) ea_nil))) (by exact Nat.le_of_ble_eq_true rfl)) ?_)
    have fl : ∀ env : NM.Env, env[1]? = some (.ow (oM (.lst ((names5.map fun x => decide (nm = x)).map .bl)))) → Ev K H (tVar 1) env (.ob (.lst ((names5.map fun x => decide (nm = x)).map .bl))) := fun env h => ev_varO h
    refine sx_seq (sx_if (et_or (et_test (ev_neI (ev_sum (ns := (names5.map fun x => decide (nm = x)).map b2z) (ea_cons (ev_no ?_) ea_nil)) ev_int)) fun _ => et_not (et_B (ev_isE (cv := .type "ValueError") (ea_cons (ev_varB rfl) (ea_cons ev_cst ea_nil)) (.ty _) (wd.ve _ hm)))) (fun z => ?_) fun _ => sx_next ?_)
    · rw [List.map_map]
      exact ev_lcA1 (xs := names5.map fun x => decide (nm = x)) (enc := NM.D.bl) (fun b => .int (b2z b)) (ei_list (fl _ rfl)) (fun b _ => ev_intB (by walk_at "a")) (by exact Nat.le_of_ble_eq_true rfl)
    · rw [j4] at z
      cases z
    · exact sx_retE ⟨rfl, trivial⟩ (ev_tup (rs := [.im (.str "refused"), .im (.str nm)]) (ea_cons ev_str (ea_cons (ev_ixL (ds := names5.map .str) (ev_no (ev_lst (rs := (names5.map NM.D.str).map .im) (ea_cons ev_str (ea_cons ev_str (ea_cons ev_str (ea_cons ev_str (ea_cons ev_str ea_nil)))))))
        (ev_idxB (j := j) (fl _ rfl) (by walk_at "a") j2 j3) (atI_nat (by rw [List.getElem?_map, j1] <;> rfl))) ea_nil))) rfl
/-! ### told -/
abbrev N__law_told : List Str := ["_law_deed", "_law_e"]
theorem sc__law_told : FnScope N__law_told ["_law_deed"] (defScope (top 26)) := ⟨rfl, rfl, rfl, by decide +kernel, rfl, by decide +kernel, by decide +kernel⟩
theorem told_rule {X : Cx} {g fw c Pt : Addr} {fdT fdW : FuncData} {k : Nat} {params : Arguments} {body : Expr} {scope : Scope} {t : XK → TE} {p lpos pos : Pos}
    (DT : FunD X.K "_law_told" "_law_told" (defArgs (top 26)) (defBody (top 26)) (defScope (top 26)) [] [] g fdT) (hT : X.mg "_law_told" = some (.ref g))
    (DW : FunD X.K "_law_word" "_law_word" (defArgs (top 25)) (defBody (top 25)) (defScope (top 25)) [] [] fw fdW) (hW : X.mg "_law_word" = some (.ref fw))
    (FW : FnW X.prog X.w X.K X.mg X.base 1 fw fdW "_law_e" (wspec X.K)) (hM : X.mg "MarkError" = some (.ref (He.ga X.K "MarkError"))) (hex : ∀ x ∈ names5, PySem.W.exmOne X.K (.ref (He.ga X.K x)) (.ref (He.ga X.K "MarkError")) = some true)
    (TB : LamX.TabB X.base X.mg c Pt) (hcode : X.env.code = .ref c) (hTbs : Tbs.T = [(Pt, X.env.qual ++ "<lambda>")]) (hg : Gl X "_law_told") (hr : Room (k + 2) X.A) (hk : 1 ≤ k) (L : LamX.LamS X.env.scope scope) (hdef : defaultsOf params X.env = ([], []))
    (hbind : ∀ (q : Str) (cl : List (Str × Addr)) (pm cv ctv : Value), bindArgs (PySem.W.kla_fn "<lambda>" q params body scope cl pm cv ctv) ⟨[], []⟩ = pure [])
    (hbody : ∀ (A : Around) (outer : List PySem.Env) (s : Shared) (H : Hp) (E : XK) (f c' : Addr), Room k (A.deeper (LamX.lamEnv X scope s.heap.objs.size f c')) → PE (lamN X A outer s H E scope f c') body (t E)) :
    PE X (.Call (.Name "_law_told" p) [.Lambda params body scope lpos] [] pos) (tTold Tbs.T (wsOf X.K (words X.K)) t) := by
  have bT := DT.bindsN (ps := ["_law_deed"]) fun _ _ _ _ _ _ us hl => match us, hl with | [_], _ => rfl
  have bW := DW.bindsN (ps := ["_law_e"]) fun _ _ _ _ _ _ us hl => match us, hl with | [_], _ => rfl
  obtain ⟨oc, od, dV, kV, doc, pm, an, cdv, ct, osl, rfl, lk, hcd, _, _⟩ := DT.ex
  refine pe_told (a := "_law_deed") (n := "_law_e") (x := "MarkError") (wd := "_law_word") (j := 1) (Ng := N__law_told) hg hT DT.kp _ rfl lk hcd bT sc__law_told rfl (Or.inl rfl) rfl rfl rfl hM (by decide) rfl hW DW.kp bW (FW.mono hk) (fun cls d H Q h => ?_) TB hcode
    (by rw [hTbs]; exact List.mem_cons_self) (fun p hp _ => by rw [hTbs] at hp; rw [List.mem_singleton.mp hp]) hr L hdef hbind hbody
  obtain ⟨nm, C, F, hm, rfl, rfl, kn, tb, q⟩ := h
  obtain ⟨x, hx, e⟩ := List.mem_map.mp hm
  cases e
  exact ⟨hex _ hx, fun p hz hf => ⟨_, _, F, hm, hz, hf, kn, tb, q⟩⟩
/-! ### the law -/
abbrev N_law : List Str := ["_law_script", "_law_k", "_law_more", "_law_one", "_law_other", "_law_size", "_law_bad", "_law_some"]
theorem sc_law : FnScope N_law ["_law_script"] (defScope (top 30)) := ⟨rfl, rfl, rfl, by decide +kernel, rfl, by decide +kernel, by decide +kernel⟩
theorem cheb_sym (a b c d : Int) : cheb a b c d = cheb c d a b := by
  unfold cheb iabs
  split <;> split <;> split <;> split <;> omega
theorem iabs_ge (i : Int) : 0 ≤ iabs i := by
  unfold iabs
  split <;> omega
theorem near_in {n : Int} (h : n ≤ 4095) : nearSz n < 14 ∧ n ≤ reachN (nearSz n) := by
  have m : nearSz n ∈ nearK n := List.mem_of_getElem? (nearK_get h)
  obtain ⟨m1, m2⟩ := List.mem_filter.mp m
  exact ⟨List.mem_range.mp m1, of_decide_eq_true m2⟩
theorem near_least {n : Int} {k : Nat} (h : n ≤ 4095) (hk : k < nearSz n) : reachN k < n := by
  refine Int.not_le.mp fun z => ?_
  have hs : (nearK n).Pairwise (· < ·) := List.pairwise_lt_range.filter _
  have mk : k ∈ nearK n := List.mem_filter.mpr ⟨List.mem_range.mpr (Nat.lt_trans hk (near_in h).1), decide_eq_true z⟩
  have g := nearK_get h
  cases e : nearK n with
  | nil => exact nearK_ne h e
  | cons a r =>
    rw [e] at g mk hs
    cases g
    rcases List.mem_cons.mp mk with q | q
    · omega
    · have := (List.pairwise_cons.mp hs).1 k q
      omega
def bads1 : List D := [.non, .tup [.int 1], .tup [.int 1, .int 2, .int 3], .lst [.int 1, .int 2], .tup [.int (-1), .int 0], .tup [.int 0, .int 4096], .tup [.bl true, .int 1], .tup [.non, .int 1], .str "12"]
def bads2 : List D := [.int (-1), .int 14, .non, .bl true, .str "1"]
def bads3 : List D := [.str "", .str "A", .str "abcdefg", .non, .int 5, .str "a b", .tup [.str "a"]]
theorem bad1 : ∀ d ∈ bads1, isPoint d = false ∧ Short d := by
  intro d hd
  simp only [bads1, List.mem_cons, List.not_mem_nil, or_false] at hd
  rcases hd with rfl | rfl | rfl | rfl | rfl | rfl | rfl | rfl | rfl <;> refine ⟨by decide, fun s z => ?_⟩ <;> cases z
  decide
theorem bad2 : ∀ d ∈ bads2, isSize d = false ∧ Short d := by
  intro d hd
  simp only [bads2, List.mem_cons, List.not_mem_nil, or_false] at hd
  rcases hd with rfl | rfl | rfl | rfl | rfl <;> refine ⟨by decide, fun s z => ?_⟩ <;> cases z
  decide
theorem bad3 : ∀ d ∈ bads3, isName d = false ∧ Short d := by
  intro d hd
  simp only [bads3, List.mem_cons, List.not_mem_nil, or_false] at hd
  rcases hd with rfl | rfl | rfl | rfl | rfl | rfl | rfl <;> refine ⟨by decide, fun s z => ?_⟩ <;> cases z <;> decide
theorem name_cut (n : Int) (h1 : 0 ≤ n) (h2 : n < 6) : isName (.str (cutS "abcdef" none (some (1 + n)))) = true ∧ Short (.str (cutS "abcdef" none (some (1 + n)))) := by
  have h : n = 0 ∨ n = 1 ∨ n = 2 ∨ n = 3 ∨ n = 4 ∨ n = 5 := by omega
  refine ⟨?_, fun s z => ?_⟩
  · rcases h with rfl | rfl | rfl | rfl | rfl | rfl <;> decide
  · cases z
    exact Nat.le_trans (cutS_length _ _ _) (by decide)
inductive S_law : List Vl → Res → Prop
  | mk (ns : List Int) (h : ns.length ≤ 63) : S_law [.lo (oS ns)] (.ok (.im (.bl true)))
theorem wmem (K : PySem.W.Frag) {x : Str} (h : x ∈ names5) : (x, He.ga K x) ∈ words K := List.mem_map.mpr ⟨x, h, rfl⟩
theorem okd_word (x : Str) (h : PyData.strOk x = true) : Okd 1 (wordD x) := fun d hd => by
  simp only [List.mem_cons, List.not_mem_nil, or_false] at hd
  rcases hd with rfl | rfl
  · exact (by decide +kernel : PyData.strOk "refused" = true)
  · exact h
theorem ok_law (fr : Free mg) {f g fw c Pt : Addr} {fdT fdW : FuncData} {dV kV doc pm ct oc : Value} {an od : Option Addr} {osl : Array (Option Value)}
    (lk : K.lookup f = some ⟨oc, od, .func (PySem.W.fnOf "law" "law" (defArgs (top 30)) (defBody (top 30)) (defScope (top 30)) dV kV doc pm an (.ref c) ct), osl⟩) (hcd : PySem.W.codeIn K (.ref c) "law" = true)
    (DT : FunD K "_law_told" "_law_told" (defArgs (top 26)) (defBody (top 26)) (defScope (top 26)) [] [] g fdT) (hT : mg "_law_told" = some (.ref g))
    (DW : FunD K "_law_word" "_law_word" (defArgs (top 25)) (defBody (top 25)) (defScope (top 25)) [] [] fw fdW) (hW : mg "_law_word" = some (.ref fw))
    (FW : FnW P w K mg base 1 fw fdW "_law_e" (wspec K)) (hM : mg "MarkError" = some (.ref (He.ga K "MarkError"))) (hex : ∀ x ∈ names5, PySem.W.exmOne K (.ref (He.ga K x)) (.ref (He.ga K "MarkError")) = some true)
    (TB : LamX.TabB base mg c Pt) (hTbs : Tbs.T = [(Pt, (envOfC "law" (defScope (top 30)) 0 0 .none).qual ++ "<lambda>")])
    (g__law_cell : FnAt P w K mg base 1 "_law_cell" ["_law_script", "_law_k"] (spX K S_cell 2)) (g__law_drawn : FnAt P w K mg base 1 "_law_drawn" ["_law_cell_here", "_law_k"] (spX K S_drawn 2)) (g__law_point : FnAt P w K mg base 1 "_law_point" ["_law_more"] (spX K S_point 1))
    (g__law_far : FnAt P w K mg base 1 "_law_far" ["_law_one", "_law_other"] (spX K S_lfar 2)) (g__law_near : FnAt P w K mg base 2 "_law_near" ["_law_one", "_law_other", "_law_size"] (spX K S_lnear 3))
    (g_far : FnAt P w K mg base 3 "far" ["one", "other"] (spX K (S_far (He.ga K "BadPoint") fun n => .im (.int n)) 2)) (g_near_size : FnAt P w K mg base 3 "near_size" ["one", "other"] (spX K (S_far (He.ga K "BadPoint") fun n => .im (.int (nearSz n : Nat))) 2))
    (g_need_point : FnAt P w K mg base 2 "need_point" ["thing"] (spX K (S_need (He.ga K "BadPoint") isPoint) 1)) (g_need_name : FnAt P w K mg base 2 "need_name" ["thing"] (spX K (S_need (He.ga K "BadName") isName) 1)) (g_need_size : FnAt P w K mg base 2 "need_size" ["thing"] (spX K (S_need (He.ga K "BadSize") isSize) 1)) :
    FnOk P w K mg base (L2N.CX P w) 6 f (PySem.W.fnOf "law" "law" (defArgs (top 30)) (defBody (top 30)) (defScope (top 30)) dV kV doc pm an (.ref c) ct) ["_law_script"] (spX K S_law 1) := by
  have nd := sc_law.nd
  refine fn_okC (ps := ["_law_script"]) lk hcd sc_law (by decide) fun A outer s H E hr => ?_
  have hcode : (cxOf (L2N.CX P w) P w K mg base N_law "law" (defScope (top 30)) f (.ref c) A outer s H E).env.code = .ref c := rfl
  refine ⟨_, (pss_cons (ps_for (passes_of rfl) rfl (pi_range1 rfl fr.range (pa_cons (pe_callB (call_max2 rfl) rfl fr.max (by decide +kernel) (pa_cons pe_int (pa_cons (pe_callB (call_min2 rfl) rfl fr.min (by decide +kernel) (pa_cons pe_int (pa_cons (pe_callB call_len rfl fr.len (by decide +kernel) (pa_cons (pv 0) pa_nil)) pa_nil))) pa_nil))) pa_nil)) (pg_name (i := 1) nd rfl (by first | exact Or.inl rfl | exact Or.inr rfl)) (pss_cons (ps_set (i := 2) nd rfl (by first | exact Or.inl rfl | exact Or.inr rfl) (pe_fn g__law_drawn hr (by decide) rfl (pa_cons (pe_fn g__law_cell hr (by decide) rfl (pa_cons (pv 0) (pa_cons (pv 1) pa_nil))) (pa_cons (pv 1) pa_nil))))
      (pss_cons (ps_asg (pe_tup (pa_cons (pe_fn g__law_point hr (by decide) rfl (pa_cons (pe_fn g__law_drawn hr (by decide) rfl (pa_cons (pv 2) (pa_cons pe_int pa_nil))) pa_nil)) (pa_cons (pe_fn g__law_point hr (by decide) rfl (pa_cons (pe_fn g__law_drawn hr (by decide) rfl (pa_cons (pv 2) (pa_cons pe_int pa_nil))) pa_nil)) pa_nil))) (pg_tup rfl (pgs_cons (pg_name (i := 3) nd rfl (by first | exact Or.inl rfl | exact Or.inr rfl)) (pgs_cons (pg_name (i := 4) nd rfl (by first | exact Or.inl rfl | exact Or.inr rfl)) pgs_nil))))
      (pss_cons (ps_if (pt_cmpR op_eq (pe_op op_mod (pv 2) pe_int) pe_int (nomark _)) (pss_one (ps_set (i := 4) nd rfl (by first | exact Or.inl rfl | exact Or.inr rfl) (pe_tup (pa_cons (pe_ix ix_tup (pv 3) pe_int (fun _ _ => rfl)) (pa_cons (pe_callB (call_min2 rfl) rfl fr.min (by decide +kernel) (pa_cons pe_int (pa_cons (pe_op op_add (pe_ix ix_tup (pv 3) pe_int (fun _ _ => rfl)) (pe_ix ix_list (pe_lst (pa_cons pe_int (pa_cons pe_int (pa_cons pe_int (pa_cons pe_int (pa_cons pe_int (pa_cons pe_int (pa_cons pe_int (pa_cons pe_int pa_nil))))))))) (pe_op op_mod (pe_op op_fdiv (pv 2) pe_int) pe_int) (fun _ _ => rfl))) pa_nil))) pa_nil))))) pss_nil)
      (pss_cons (ps_if (PW.pt (pw_or (pt_cmpR (op_neD hr.units) (told_rule DT hT DW hW FW hM hex TB hcode hTbs rfl hr (by decide) (LamX.lamS_by (show LamX.lamSB (defScope (top 30)) _ = true by decide +kernel)) rfl (fun _ _ _ _ _ => rfl) (fun A outer s H E f c' hr => (pe_fnL g_far hr (by decide) rfl (pa_cons (pv 3) (pa_cons (pv 4) pa_nil))))) (pe_fn g__law_far hr (by decide) rfl (pa_cons (pv 3) (pa_cons (pv 4) pa_nil))) (nomark _)) (pw_or1 (pt_cmpR op_ne (pe_fn g_far hr (by decide) rfl (pa_cons (pv 4) (pa_cons (pv 3) pa_nil))) (pe_fn g_far hr (by decide) rfl (pa_cons (pv 3) (pa_cons (pv 4) pa_nil))) (nomark _))))) (pss_one (ps_ret pe_bl)) pss_nil)
      (pss_cons (ps_set (i := 5) nd rfl (by first | exact Or.inl rfl | exact Or.inr rfl) (told_rule DT hT DW hW FW hM hex TB hcode hTbs rfl hr (by decide) (LamX.lamS_by (show LamX.lamSB (defScope (top 30)) _ = true by decide +kernel)) rfl (fun _ _ _ _ _ => rfl) (fun A outer s H E f c' hr => (pe_fnL g_near_size hr (by decide) rfl (pa_cons (pv 3) (pa_cons (pv 4) pa_nil))))))
      (pss_cons (ps_if (PW.pt (pw_or (pt_not (pt_val (pe_fn g__law_near hr (by decide) rfl (pa_cons (pv 3) (pa_cons (pv 4) (pa_cons (pv 5) pa_nil)))))) (pw_or1 (PW.pt (pw_and (pt_cmpR op_gt (pv 5) pe_int (nomark _)) (pw_and1 (pt_val (pe_fn g__law_near hr (by decide) rfl (pa_cons (pv 3) (pa_cons (pv 4) (pa_cons (pe_op op_sub (pv 5) pe_int) pa_nil))))))))))) (pss_one (ps_ret pe_bl)) pss_nil)
      (pss_cons (ps_if (PW.pt (pw_or (pt_cmpR op_notN (pe_fn g_need_point hr (by decide) rfl (pa_cons (pv 3) pa_nil)) pe_non (nomark _)) (pw_or1 (pt_cmpR op_notN (pe_fn g_need_name hr (by decide) rfl (pa_cons (pe_slice sl_str pe_str po_none (po_some (pe_op op_add pe_int (pe_op op_mod (pv 2) pe_int)))) pa_nil)) pe_non (nomark _))))) (pss_one (ps_ret pe_bl)) pss_nil)
      (pss_cons (ps_if (pt_cmpR op_notN (pe_fn g_need_size hr (by decide) rfl (pa_cons (pe_op op_mod (pv 2) pe_int) pa_nil)) pe_non (nomark _)) (pss_one (ps_ret pe_bl)) pss_nil)
      (pss_cons (ps_for (passes_of rfl) rfl (pi_list (pe_lst (pa_cons pe_non (pa_cons (pe_tup (pa_cons pe_int pa_nil)) (pa_cons (pe_tup (pa_cons pe_int (pa_cons pe_int (pa_cons pe_int pa_nil)))) (pa_cons (pe_lst (pa_cons pe_int (pa_cons pe_int pa_nil))) (pa_cons (pe_tup (pa_cons (pe_un un_neg pe_int) (pa_cons pe_int pa_nil))) (pa_cons (pe_tup (pa_cons pe_int (pa_cons pe_int pa_nil))) (pa_cons (pe_tup (pa_cons pe_bl (pa_cons pe_int pa_nil))) (pa_cons (pe_tup (pa_cons pe_non (pa_cons pe_int pa_nil))) (pa_cons pe_str pa_nil))))))))))) (pg_name (i := 6) nd rfl (by first | exact Or.inl rfl | exact Or.inr rfl)) (pss_cons (ps_set (i := 7) nd rfl (by first | exact Or.inl rfl | exact Or.inr rfl) (pe_lst (pa_cons (told_rule DT hT DW hW FW hM hex TB hcode hTbs rfl hr (by decide) (LamX.lamS_by (show LamX.lamSB (defScope (top 30)) _ = true by decide +kernel)) rfl (fun _ _ _ _ _ => rfl) (fun A outer s H E f c' hr => (pe_fnL g_need_point hr (by decide) rfl (pa_cons (pv 6) pa_nil)))) pa_nil)))
      (pss_cons (ps_expr (pe_bm PySem.F.plainAttrs_list PySem.F.slot_list_append PySem.F.type_list_append mt_append (pv 7) (pa_cons (told_rule DT hT DW hW FW hM hex TB hcode hTbs rfl hr (by decide) (LamX.lamS_by (show LamX.lamSB (defScope (top 30)) _ = true by decide +kernel)) rfl (fun _ _ _ _ _ => rfl) (fun A outer s H E f c' hr => (pe_fnL g_far hr (by decide) rfl (pa_cons (pv 6) (pa_cons (pv 3) pa_nil))))) pa_nil)))
      (pss_cons (ps_expr (pe_bm PySem.F.plainAttrs_list PySem.F.slot_list_append PySem.F.type_list_append mt_append (pv 7) (pa_cons (told_rule DT hT DW hW FW hM hex TB hcode hTbs rfl hr (by decide) (LamX.lamS_by (show LamX.lamSB (defScope (top 30)) _ = true by decide +kernel)) rfl (fun _ _ _ _ _ => rfl) (fun A outer s H E f c' hr => (pe_fnL g_far hr (by decide) rfl (pa_cons (pv 3) (pa_cons (pv 6) pa_nil))))) pa_nil)))
      (pss_cons (ps_expr (pe_bm PySem.F.plainAttrs_list PySem.F.slot_list_append PySem.F.type_list_append mt_append (pv 7) (pa_cons (told_rule DT hT DW hW FW hM hex TB hcode hTbs rfl hr (by decide) (LamX.lamS_by (show LamX.lamSB (defScope (top 30)) _ = true by decide +kernel)) rfl (fun _ _ _ _ _ => rfl) (fun A outer s H E f c' hr => (pe_fnL g_near_size hr (by decide) rfl (pa_cons (pv 3) (pa_cons (pv 6) pa_nil))))) pa_nil)))
      (pss_one (ps_if (pt_cmpR (op_neD hr.units) (pv 7) (pe_op op_rep (pe_lst (pa_cons (pe_tup (pa_cons pe_str (pa_cons pe_str pa_nil))) pa_nil)) pe_int) (nomark _)) (pss_one (ps_ret pe_bl)) pss_nil)))))))
      (pss_cons (ps_for (passes_of rfl) rfl (pi_list (pe_lst (pa_cons (pe_un un_neg pe_int) (pa_cons pe_int (pa_cons pe_non (pa_cons pe_bl (pa_cons pe_str pa_nil))))))) (pg_name (i := 6) nd rfl (by first | exact Or.inl rfl | exact Or.inr rfl)) (pss_one (ps_if (pt_cmpR (op_neD hr.units) (told_rule DT hT DW hW FW hM hex TB hcode hTbs rfl hr (by decide) (LamX.lamS_by (show LamX.lamSB (defScope (top 30)) _ = true by decide +kernel)) rfl (fun _ _ _ _ _ => rfl) (fun A outer s H E f c' hr => (pe_fnL g_need_size hr (by decide) rfl (pa_cons (pv 6) pa_nil)))) (pe_tup (pa_cons pe_str (pa_cons pe_str pa_nil))) (nomark _)) (pss_one (ps_ret pe_bl)) pss_nil)))
      (pss_one (ps_for (passes_of rfl) rfl (pi_list (pe_lst (pa_cons pe_str (pa_cons pe_str (pa_cons pe_str (pa_cons pe_non (pa_cons pe_int (pa_cons pe_str (pa_cons (pe_tup (pa_cons pe_str pa_nil)) pa_nil))))))))) (pg_name (i := 6) nd rfl (by first | exact Or.inl rfl | exact Or.inr rfl)) (pss_one (ps_if (pt_cmpR (op_neD hr.units) (told_rule DT hT DW hW FW hM hex TB hcode hTbs rfl hr (by decide) (LamX.lamS_by (show LamX.lamSB (defScope (top 30)) _ = true by decide +kernel)) rfl (fun _ _ _ _ _ => rfl) (fun A outer s H E f c' hr => (pe_fnL g_need_name hr (by decide) rfl (pa_cons (pv 6) pa_nil)))) (pe_tup (pa_cons pe_str (pa_cons pe_str pa_nil))) (nomark _)) (pss_one (ps_ret pe_bl)) pss_nil)))))))))))))))
      (pss_one (ps_ret pe_bl))), fun rs res hl sp B => ?_⟩
  obtain ⟨ns, hns⟩ := sp
  dsimp only [cxOf, List.map, toSl, N_law, List.length_cons, List.length_nil, Nat.reduceAdd, Nat.reduceSub, List.replicate_succ, List.replicate_zero, List.cons_append, List.nil_append]
  have tl1 : ∀ {ta : TA} {env : NM.Env} {sp : List Vl → Res → Prop} {n : Nat} {rs : List Vl} {r : NM.D}, EvA K B ta env rs → (∀ r ∈ rs, Flat r) → sp rs (.ok (.im r)) → rs.length = n → Ev K B (tTold Tbs.T (wsOf K (words K)) fun E => tCall (spX K sp n) [] E ta) env (.im r) := fun h f s e =>
    ev_told (el_call h f s (fun r z => by cases z; trivial) e) (.ok _)
  have tl2 : ∀ {ta : TA} {env : NM.Env} {sp : List Vl → Res → Prop} {n : Nat} {rs : List Vl} {x : Str}, x ∈ names5 → EvA K B ta env rs → (∀ r ∈ rs, Flat r) → sp rs (.ex (He.ga K x)) → rs.length = n → Ev K B (tTold Tbs.T (wsOf K (words K)) fun E => tCall (spX K sp n) [] E ta) env (.im (wordD x)) := fun hx h f s e =>
    ev_told (el_call h f s (fun r z => by cases z) e) (.ex _ _ (wmem K hx))
  refine sx_seq (sx_for (js := [1]) (fun d => [d]) (ef_range1 (j := max 1 (min 5 (ns.length : Int))) (n := (max 1 (min 5 (ns.length : Int))).toNat) (ea_cons (ev_max2 (ea_cons ev_int (ea_cons (ev_min2 (ea_cons ev_int (ea_cons (ev_lenSc (ea_cons (ev_varB rfl) ea_nil)) ea_nil))) ea_nil))) ea_nil) (by omega) (by omega) rfl)
    (fun _ _ => eg_name) (fun _ e => ∃ a1 a2 a3 a4 a5 a6 a7, e = [.br (oS ns), a1, a2, a3, a4, a5, a6, a7]) ⟨_, _, _, _, _, _, _, rfl⟩ (fun i0 d e hd he => ?_) (fun e he => ?_))
  rotate_left
  · obtain ⟨a1, a2, a3, a4, a5, a6, a7, rfl⟩ := he
    exact sx_retE ⟨rfl, trivial⟩ ev_bool rfl
  obtain ⟨a1, a2, a3, a4, a5, a6, a7, rfl⟩ := he
  rw [List.getElem?_map] at hd
  obtain ⟨i, hi, rfl⟩ := Option.map_eq_some_iff.mp hd
  have hi5 : i < (max 1 (min 5 (ns.length : Int))).toNat := by
    have := (List.getElem?_eq_some_iff.mp hi)
    obtain ⟨q1, q2⟩ := this
    rw [List.getElem_range] at q2
    rw [List.length_range] at q1
    omega
  show Sx K B _ _ [.br (oS ns), .im (.int i), a2, a3, a4, a5, a6, a7] _
  have fS : ∀ (x : Ob) (y : NM.D), ∀ r ∈ [Vl.lo x, Vl.im y], Flat r := fun x y r hr => by simp at hr; rcases hr with rfl | rfl <;> trivial
  refine sx_seq (sx_asg (ev_call (ea_cons (ev_call (ea_cons (ev_varB rfl) (ea_cons (ev_var (d := .int i) rfl) ea_nil)) (fS _ _) (S_cell.mk ns i hns (by omega)) trivial) (ea_cons (ev_var (d := .int i) rfl) ea_nil)) flat2 (S_drawn.mk _ i (by omega)) trivial) ?_)
  generalize drawnV (cellV ns i) i = m
  show Sx K B _ _ [.br (oS ns), .im (.int i), .im (.int m), a3, a4, a5, a6, a7] _
  refine sx_seq (sx_asgG (ev_tup (ea_cons (ev_call (ea_cons (ev_call (ea_cons (ev_var (d := .int m) rfl) (ea_cons ev_int ea_nil)) flat2 (S_drawn.mk m 1 (by decide)) trivial) ea_nil) flat1 (S_point.mk _) trivial)
    (ea_cons (ev_call (ea_cons (ev_call (ea_cons (ev_var (d := .int m) rfl) (ea_cons ev_int ea_nil)) flat2 (S_drawn.mk m 2 (by decide)) trivial) ea_nil) flat1 (S_point.mk _) trivial) ea_nil))) eg_two ?_)
  obtain ⟨bx1, bx2⟩ := ptX_le (drawnV m (1 : Nat))
  obtain ⟨by1, by2⟩ := ptY_le (drawnV m (1 : Nat))
  obtain ⟨bu1, bu2⟩ := ptX_le (drawnV m (2 : Nat))
  obtain ⟨bv1, bv2⟩ := ptY_le (drawnV m (2 : Nat))
  generalize ptX (drawnV m (1 : Nat)) = x at *
  generalize ptY (drawnV m (1 : Nat)) = y at *
  generalize ptX (drawnV m (2 : Nat)) = u0 at *
  generalize ptY (drawnV m (2 : Nat)) = v0 at *
  show Sx K B _ _ [.br (oS ns), .im (.int i), .im (.int m), .im (ptD x y), .im (ptD u0 v0), a5, a6, a7] _
  -- the other point, in either case
  refine sx_seq (sx_weak (P' := fun o => ∃ u v : Int, (0 ≤ u ∧ u ≤ 4095) ∧ (0 ≤ v ∧ v ≤ 4095) ∧ o = .nx [.br (oS ns), .im (.int i), .im (.int m), .im (ptD x y), .im (ptD u v), a5, a6, a7]) ?_ ?_)
  · refine sx_if (et_test (ev_eqI (ev_mod (ev_var (d := .int m) rfl) ev_int (by decide)) ev_int)) (fun _ => ?_) fun _ => sx_next ⟨u0, v0, ⟨bu1, bu2⟩, ⟨bv1, bv2⟩, rfl⟩
    have z1 : 0 ≤ m / 4 % 8 := Int.emod_nonneg _ (by decide)
    have z2 : m / 4 % 8 < 8 := Int.emod_lt_of_pos _ (by decide)
    have key : ∃ w : Int, 0 ≤ w ∧ L2.atI (([0, 1, 2, 3, 4, 5, 8, 9] : List Int).map NM.D.int) (m / 4 % 8) = some (.int w) := by
      have h : m / 4 % 8 = 0 ∨ m / 4 % 8 = 1 ∨ m / 4 % 8 = 2 ∨ m / 4 % 8 = 3 ∨ m / 4 % 8 = 4 ∨ m / 4 % 8 = 5 ∨ m / 4 % 8 = 6 ∨ m / 4 % 8 = 7 := by omega
      rcases h with h | h | h | h | h | h | h | h <;> rw [h]
      · exact ⟨0, by decide, rfl⟩
      · exact ⟨1, by decide, rfl⟩
      · exact ⟨2, by decide, rfl⟩
      · exact ⟨3, by decide, rfl⟩
      · exact ⟨4, by decide, rfl⟩
      · exact ⟨5, by decide, rfl⟩
      · exact ⟨8, by decide, rfl⟩
      · exact ⟨9, by decide, rfl⟩
    obtain ⟨w0, wz, hw⟩ := key
    refine sx_asg (d := ptD x (min 4095 (y + w0))) (ev_tup (ea_cons (ev_ixT (ds := [.int x, .int y]) (i := 0) (ev_var rfl) ev_int rfl) (ea_cons (ev_min2 (ea_cons ev_int (ea_cons (ev_add (ev_ixT (ds := [.int x, .int y]) (i := 1) (ev_var rfl) ev_int rfl)
      (ev_ixL (ds := ([0, 1, 2, 3, 4, 5, 8, 9] : List Int).map .int) (ev_no (ev_lst (rs := [.im (.int 0), .im (.int 1), .im (.int 2), .im (.int 3), .im (.int 4), .im (.int 5), .im (.int 8), .im (.int 9)]) (by walk_at "a"))) (ev_mod (ev_div (ev_var (d := .int m) rfl) ev_int ⟨by decide, by decide⟩) ev_int (by decide)) hw)) ea_nil))) ea_nil))) ?_
    exact ⟨x, min 4095 (y + w0), ⟨bx1, bx2⟩, ⟨by omega, by omega⟩, rfl⟩
  rintro o ⟨u, v, bu, bv, rfl⟩
  show Sx K B _ _ [.br (oS ns), .im (.int i), .im (.int m), .im (ptD x y), .im (ptD u v), a5, a6, a7] _
  have p1 : isPoint (ptD x y) = true := isPoint_of ⟨bx1, bx2⟩ ⟨by1, by2⟩
  have p2 : isPoint (ptD u v) = true := isPoint_of bu bv
  have cle := cheb_le p1 p2
  refine sx_seq (sx_if (et_or (et_test (ev_neD (n := 0) (m := 0) (ev_ob (tl1 (ea_cons (ev_var (d := ptD x y) rfl) (ea_cons (ev_var (d := ptD u v) rfl) ea_nil)) flat2 (S_far.ok x y u v p1 p2) rfl)) (ev_ob (ev_call (ea_cons (ev_var (d := ptD x y) rfl) (ea_cons (ev_var (d := ptD u v) rfl) ea_nil)) flat2 (S_lfar.mk x y u v) trivial)) trivial trivial))
    fun _ => et_test (ev_neI (ev_call (ea_cons (ev_var (d := ptD u v) rfl) (ea_cons (ev_var (d := ptD x y) rfl) ea_nil)) flat2 (S_far.ok u v x y p2 p1) trivial) (ev_call (ea_cons (ev_var (d := ptD x y) rfl) (ea_cons (ev_var (d := ptD u v) rfl) ea_nil)) flat2 (S_far.ok x y u v p1 p2) trivial))) (fun z => ?_) fun _ => sx_next ?_)
  · rw [deq_self, cheb_sym u v x y, decide_eq_true rfl] at z
    cases z
  refine sx_seq (sx_asg (tl1 (ea_cons (ev_var (d := ptD x y) rfl) (ea_cons (ev_var (d := ptD u v) rfl) ea_nil)) flat2 (S_far.ok x y u v p1 p2) rfl) ?_)
  generalize hc : cheb x y u v = cc at *
  obtain ⟨n1, n2⟩ := near_in cle
  show Sx K B _ _ [.br (oS ns), .im (.int i), .im (.int m), .im (ptD x y), .im (ptD u v), .im (.int (nearSz cc : Nat)), a6, a7] _
  have lnear : ∀ k : Nat, k < 14 → S_lnear [.im (ptD x y), .im (ptD u v), .im (.int k)] (.ok (.im (.bl (decide (cc ≤ reachN k))))) := fun k hk => by
    rw [← hc]
    exact S_lnear.mk x y u v k hk
  refine sx_seq (sx_if (et_or (et_not (et_B (ev_call (ea_cons (ev_var (d := ptD x y) rfl) (ea_cons (ev_var (d := ptD u v) rfl) (ea_cons (ev_var (d := .int (nearSz cc : Nat)) rfl) ea_nil))) flat3 (lnear _ n1) trivial))) fun _ =>
    et_and (q := false) (et_test (ev_gt (ev_var (d := .int (nearSz cc : Nat)) rfl) ev_int)) fun hgt => ?_) (fun z => ?_) fun _ => sx_next ?_)
  · have hg : 0 < (nearSz cc : Int) := of_decide_eq_true hgt
    refine et_B (ev_is (ev_call (ea_cons (ev_var (d := ptD x y) rfl) (ea_cons (ev_var (d := ptD u v) rfl) (ea_cons (ev_is (b := .im (.int ((nearSz cc - 1 : Nat) : Int))) (ev_sub (ev_var (d := .int (nearSz cc : Nat)) rfl) ev_int) (by rw [show ((nearSz cc : Nat) : Int) - 1 = ((nearSz cc - 1 : Nat) : Int) by omega])) ea_nil))) flat3 (lnear (nearSz cc - 1) (by omega)) trivial) ?_)
    rw [decide_eq_false (Int.not_le.mpr (near_least cle (by omega)))]
  · rw [decide_eq_true n2, Bool.and_false] at z
    cases z
  -- names, sizes
  have m6a : 0 ≤ m % 6 := Int.emod_nonneg _ (by decide)
  have m6b : m % 6 < 6 := Int.emod_lt_of_pos _ (by decide)
  obtain ⟨nm1, nm2⟩ := name_cut (m % 6) m6a m6b
  refine sx_seq (sx_if (et_or (et_test (ev_notN (ev_call (ea_cons (ev_var (d := ptD x y) rfl) ea_nil) flat1 (S_need.ok _ (short_pt x y) p1) trivial))) fun _ =>
    et_test (ev_notN (ev_call (ea_cons (ev_slS (s := "abcdef") ev_str eo_none (eo_some (ev_add ev_int (ev_mod (ev_var (d := .int m) rfl) ev_int (by decide)))) (by decide)) ea_nil) flat1 (S_need.ok _ nm2 nm1) trivial))) (fun z => by cases z) fun _ => sx_next ?_)
  have m14a : 0 ≤ m % 14 := Int.emod_nonneg _ (by decide)
  have m14b : m % 14 < 14 := Int.emod_lt_of_pos _ (by decide)
  have sz14 : isSize (.int (m % 14)) = true := by
    show (decide (0 ≤ m % 14) && decide (m % 14 ≤ 13)) = true
    rw [decide_eq_true m14a, decide_eq_true (by omega)]
    rfl
  refine sx_seq (sx_if (et_test (ev_notN (ev_call (ea_cons (ev_mod (ev_var (d := .int m) rfl) ev_int (by decide)) ea_nil) flat1 (S_need.ok _ (fun s z => by cases z) sz14) trivial))) (fun z => by cases z) fun _ => sx_next ?_)
  -- what are none
  have inv : ∀ a b, (fun (_ : Nat) (e : NM.Env) => ∃ b6 b7, e = [.br (oS ns), .im (.int i), .im (.int m), .im (ptD x y), .im (ptD u v), .im (.int (nearSz cc : Nat)), b6, b7]) 0 [.br (oS ns), .im (.int i), .im (.int m), .im (ptD x y), .im (ptD u v), .im (.int (nearSz cc : Nat)), a, b] := fun a b => ⟨a, b, rfl⟩
  refine sx_seq (sx_for (js := [6]) (ds := bads1) (fun d => [d]) (ef_list (ev_im (ev_lst (rs := bads1.map .im) ?_))) (fun _ _ => eg_name) (fun _ e => ∃ b6 b7, e = [.br (oS ns), .im (.int i), .im (.int m), .im (ptD x y), .im (ptD u v), .im (.int (nearSz cc : Nat)), b6, b7]) (inv _ _) (fun j d e hd he => ?_) (fun e he => ?_))
  · show EvA K B _ _ [.im .non, .im (.tup [.int 1]), .im (.tup [.int 1, .int 2, .int 3]), .im (.lst [.int 1, .int 2]), .im (.tup [.int (-1), .int 0]), .im (.tup [.int 0, .int 4096]), .im (.tup [.bl true, .int 1]), .im (.tup [.non, .int 1]), .im (.str "12")]
    exact ea_cons ev_non (ea_cons (ev_tup (rs := [.im (.int 1)]) (by walk_at "a")) (ea_cons (ev_tup (rs := [.im (.int 1), .im (.int 2), .im (.int 3)]) (by walk_at "a")) (ea_cons (ev_im (ev_lst (rs := [.im (.int 1), .im (.int 2)]) (by walk_at "a"))) (ea_cons (ev_tup (rs := [.im (.int (-1)), .im (.int 0)]) (ea_cons (ev_neg ev_int) (by walk_at "a")))
      (ea_cons (ev_tup (rs := [.im (.int 0), .im (.int 4096)]) (by walk_at "a")) (ea_cons (ev_tup (rs := [.im (.bl true), .im (.int 1)]) (by walk_at "a")) (ea_cons (ev_tup (rs := [.im .non, .im (.int 1)]) (by walk_at "a")) (ea_cons ev_str ea_nil))))))))
  · obtain ⟨b6, b7, rfl⟩ := he
    obtain ⟨hb, hs⟩ := bad1 d (List.mem_of_getElem? hd)
    show Sx K B _ _ [.br (oS ns), .im (.int i), .im (.int m), .im (ptD x y), .im (ptD u v), .im (.int (nearSz cc : Nat)), .im d, b7] _
    refine sx_seq (sx_asgW (ev_lst (rs := [.im (wordD "BadPoint")]) (ea_cons (tl2 (by simp [names5]) (ea_cons (ev_var (d := d) rfl) ea_nil) flat1 (S_need.ex _ hs hb) rfl) ea_nil)) ?_)
    refine sx_seq (sx_append (ds := [wordD "BadPoint"]) rfl (tl2 (by simp [names5]) (ea_cons (ev_var (d := d) rfl) (ea_cons (ev_var (d := ptD x y) rfl) ea_nil)) flat2 (S_far.ex1 _ _ hs (short_pt x y) hb) rfl) (by exact Nat.lt_of_lt_of_le (show 1 < 2 by decide) (Nat.le_of_ble_eq_true rfl)) ?_)
    refine sx_seq (sx_append (ds := [wordD "BadPoint", wordD "BadPoint"]) rfl (tl2 (by simp [names5]) (ea_cons (ev_var (d := ptD x y) rfl) (ea_cons (ev_var (d := d) rfl) ea_nil)) flat2 (S_far.ex2 _ _ (short_pt x y) hs p1 hb) rfl) (by exact Nat.lt_of_lt_of_le (show 2 < 3 by decide) (Nat.le_of_ble_eq_true rfl)) ?_)
    refine sx_seq (sx_append (ds := [wordD "BadPoint", wordD "BadPoint", wordD "BadPoint"]) rfl (tl2 (by simp [names5]) (ea_cons (ev_var (d := ptD x y) rfl) (ea_cons (ev_var (d := d) rfl) ea_nil)) flat2 (S_far.ex2 _ _ (short_pt x y) hs p1 hb) rfl) (by exact Nat.lt_of_lt_of_le (show 3 < 4 by decide) (Nat.le_of_ble_eq_true rfl)) ?_)
    have ok2 : Okd 2 (.lst [wordD "BadPoint", wordD "BadPoint", wordD "BadPoint", wordD "BadPoint"]) := fun e he => by
      simp only [List.mem_cons, List.not_mem_nil, or_false, or_self] at he
      subst he
      exact okd_word _ (by decide +kernel)
    refine sx_if (et_test (ev_neD (n := 2) (m := 2) (ev_varO (d := .lst [wordD "BadPoint", wordD "BadPoint", wordD "BadPoint", wordD "BadPoint"]) rfl) (ev_no (d := .lst [wordD "BadPoint", wordD "BadPoint", wordD "BadPoint", wordD "BadPoint"]) (ev_rep (ds := [wordD "BadPoint"]) (n := 4) (ev_no (ev_lst (rs := [.im (wordD "BadPoint")]) (ea_cons (ev_tup (rs := [.im (.str "refused"), .im (.str "BadPoint")]) (by walk_at "a")) ea_nil))) ev_int (by decide) (by decide) (by exact Nat.le_of_ble_eq_true rfl))) ok2 ok2)) (fun z => ?_) fun _ => sx_next ⟨_, _, rfl⟩
    rw [deq_self] at z
    cases z
  obtain ⟨b6, b7, rfl⟩ := he
  refine sx_seq (sx_for (js := [6]) (ds := bads2) (fun d => [d]) (ef_list (ev_im (ev_lst (rs := bads2.map .im) ?_))) (fun _ _ => eg_name) (fun _ e => ∃ b6 b7, e = [.br (oS ns), .im (.int i), .im (.int m), .im (ptD x y), .im (ptD u v), .im (.int (nearSz cc : Nat)), b6, b7]) (inv _ _) (fun j d e hd he => ?_) (fun e he => ?_))
  · show EvA K B _ _ [.im (.int (-1)), .im (.int 14), .im .non, .im (.bl true), .im (.str "1")]
    exact ea_cons (ev_neg ev_int) (by walk_at "a")
  · obtain ⟨b6, b7, rfl⟩ := he
    obtain ⟨hb, hs⟩ := bad2 d (List.mem_of_getElem? hd)
    show Sx K B _ _ [.br (oS ns), .im (.int i), .im (.int m), .im (ptD x y), .im (ptD u v), .im (.int (nearSz cc : Nat)), .im d, b7] _
    refine sx_if (et_test (ev_neD (n := 1) (m := 1) (ev_ob (tl2 (x := "BadSize") (by simp [names5]) (ea_cons (ev_var (d := d) rfl) ea_nil) flat1 (S_need.ex _ hs hb) rfl)) (ev_ob (d := wordD "BadSize") (ev_tup (rs := [.im (.str "refused"), .im (.str "BadSize")]) (by walk_at "a"))) (okd_word _ (by decide +kernel)) (okd_word _ (by decide +kernel)))) (fun z => ?_) fun _ => sx_next ⟨_, _, rfl⟩
    rw [deq_self] at z
    cases z
  obtain ⟨b6, b7, rfl⟩ := he
  refine sx_for (js := [6]) (ds := bads3) (fun d => [d]) (ef_list (ev_im (ev_lst (rs := bads3.map .im) ?_))) (fun _ _ => eg_name) (fun _ e => ∃ b6 b7, e = [.br (oS ns), .im (.int i), .im (.int m), .im (ptD x y), .im (ptD u v), .im (.int (nearSz cc : Nat)), b6, b7]) (inv _ _) (fun j d e hd he => ?_) (fun e he => ?_)
  · show EvA K B _ _ [.im (.str ""), .im (.str "A"), .im (.str "abcdefg"), .im .non, .im (.int 5), .im (.str "a b"), .im (.tup [.str "a"])]
    exact ea_cons ev_str (ea_cons ev_str (ea_cons ev_str (ea_cons ev_non (ea_cons ev_int (ea_cons ev_str (ea_cons (ev_tup (rs := [.im (.str "a")]) (by walk_at "a")) ea_nil))))))
  · obtain ⟨b6, b7, rfl⟩ := he
    obtain ⟨hb, hs⟩ := bad3 d (List.mem_of_getElem? hd)
    show Sx K B _ _ [.br (oS ns), .im (.int i), .im (.int m), .im (ptD x y), .im (ptD u v), .im (.int (nearSz cc : Nat)), .im d, b7] _
    refine sx_if (et_test (ev_neD (n := 1) (m := 1) (ev_ob (tl2 (x := "BadName") (by simp [names5]) (ea_cons (ev_var (d := d) rfl) ea_nil) flat1 (S_need.ex _ hs hb) rfl)) (ev_ob (d := wordD "BadName") (ev_tup (rs := [.im (.str "refused"), .im (.str "BadName")]) (by walk_at "a"))) (okd_word _ (by decide +kernel)) (okd_word _ (by decide +kernel)))) (fun z => ?_) fun _ => sx_next ⟨_, _, rfl⟩
    rw [deq_self] at z
    cases z
  obtain ⟨b6, b7, rfl⟩ := he
  exact ⟨_, _, _, _, _, _, _, rfl⟩
end
end NM
/-! ### the head: what is known of the top -/
namespace NMH
open PySem PySem.Spec PyProof.Rows L2 NM
def dd (x : Str) (i : Nat) : He.DefD := ⟨(x, none), x, x, defArgs (top i), defBody (top i), defScope (top i), [], []⟩
def fn : List He.DefD := [dd "is_count" 13, dd "is_name" 14, dd "need_name" 15, dd "need_point" 16, dd "need_size" 17, dd "reach" 18, dd "apart" 19, dd "far" 20, dd "near_size" 21, dd "_law_cell" 23, dd "_law_drawn" 24, dd "_law_word" 25, dd "_law_told" 26, dd "_law_point" 27, dd "_law_far" 28, dd "_law_near" 29, dd "law" 30]
def fa : List He.Fa := frees.map He.Fa.free ++ [.glo "is_count", .glo "is_name", .glo "need_name", .glo "need_point", .glo "need_size", .glo "reach", .glo "apart", .glo "far", .glo "near_size", .glo "_law_cell", .glo "_law_drawn", .glo "_law_word", .glo "_law_told", .glo "_law_point", .glo "_law_far", .glo "_law_near", .glo "law", .glo "MarkError", .glo "BadName", .glo "BadPoint", .glo "BadSize", .glo "BadHeap", .glo "BadText"] ++ ([("MOST_WORD", 6), ("MOST_SIDE", 4095), ("MOST_SIZE", 13)] : List (Str × Int)).map (fun p => He.Fa.int p.1 p.2) ++ [.str "SMALL" "abcdefghijklmnopqrstuvwxyz", .glo "REACHES"] ++ names5.map He.Fa.exc ++ (names5.map fun x => .exm x "MarkError" true)
def tf : List He.Defn := [("law", none)]
def excB (K : PySem.W.Frag) (D : Addr) : Bool := He.eqO (PySem.W.findIn K (.ref D) "__getattribute__") (some (some (.builtin "BaseException.__getattribute__"))) && (He.eqO (PySem.W.findIn K (.ref D) "__getattr__") (some none) && (decide (PySem.W.subIn K (.ref D) (.type "BaseException") = some true) &&
  (PySem.W.hasDictIn K D && (He.eqO (PySem.W.findIn K (.ref D) "__class__") (some (some (.builtin "object.__class__"))) && (He.eqO (PySem.W.specialIn K (.builtin "object.__class__") "__get__") (some (some (.builtin "getset_descriptor.__get__"))) &&
  (decide (PySem.W.takesIn K (.builtin "object.__class__") = some true) && decide (PySem.W.mroIn K D (.type "object") = some true)))))))
theorem excB_ok {K : PySem.W.Frag} {D : Addr} (h : excB K D = true) : ExcC K D := by
  obtain ⟨h1, h⟩ := He.ba h
  obtain ⟨h2, h⟩ := He.ba h
  obtain ⟨h3, h⟩ := He.ba h
  obtain ⟨h4, h⟩ := He.ba h
  obtain ⟨h5, h⟩ := He.ba h
  obtain ⟨h6, h⟩ := He.ba h
  obtain ⟨h7, h8⟩ := He.ba h
  exact ⟨He.eqO_ok h1, He.eqO_ok h2, of_decide_eq_true h3, h4, He.eqO_ok h5, He.eqO_ok h6, of_decide_eq_true h7, of_decide_eq_true h8⟩
def wordsB (K : PySem.W.Frag) : Bool := names5.all fun x => excB K (He.ga K x) && (decide (PySem.W.kitOne K (.ref (He.ga K x)) (.type "ValueError") = some true) && names5.all fun y => decide (PySem.W.kitOne K (.ref (He.ga K x)) (.ref (He.ga K y)) = some (decide (x = y))))
def rcs : List He.Dv := [.int 0, .int 1, .int 2, .int 4, .int 8, .int 16, .int 32, .int 64, .int 128, .int 256, .int 512, .int 1024, .int 2048, .int 4096]
def ex (K : PySem.W.Frag) : Bool := He.tupB K "REACHES" rcs && wordsB K
abbrev R : PySem.W.OpenRow := PySem.W.OpenLaw.row PySem.Challenge.rw_nearmarks_k10_points
abbrev hk : PySem.W.Hook := He.hookX 5 fa fn [] tf ex
def ob (s : PySem.W.SharedT) : He.AlX := He.obsX 5 fa fn [] tf ex (HandSHeadRun.getT s)
theorem ob_eq (s : PySem.W.SharedT) : ob s = hk.obs s.abs := He.obsX_eq (HandSHeadRun.getT_eq s)
def loose : List Str := ["MarkError", "BadName", "BadPoint", "BadSize", "BadHeap", "BadText", "SMALL", "MOST_WORD", "MOST_SIDE", "MOST_SIZE", "REACHES", "is_count", "is_name", "need_name", "need_point", "need_size", "reach", "apart", "far", "near_size", "_law_cell", "_law_drawn", "_law_word", "_law_told", "_law_point", "_law_far", "_law_near"]
theorem run (w : World) : HandSHeadRun.RunEq R (PySem.W.view R.prog [30]) hk ob 4000 loose w := by
  intro os
  kernel_rfl
theorem facts {P : Program} {w : World} {K : PySem.W.Frag} {h : Heap} {mg : Str → Option Value} {f : Addr} (X : K.In h) (G : h.Ns mainGlobals mg) (hfa : mg ("law" : Str) = some (.ref f)) (c : He.SaysX fa fn [] tf ex w h K) :
    ∃ (fd : FuncData) (T : NM.Tbs), T.T = [((He.cT K ("law", none)).2, (envOfC "law" (defScope (top 30)) 0 0 .none).qual ++ "<lambda>")] ∧ (∀ (s : Shared) (v : Value), BindsTo s fd ⟨[v], []⟩ [("_law_script", v)]) ∧
      ∀ base : Heap, K.In base → base.Ns mainGlobals mg → LamX.TabB base mg (He.cT K ("law", none)).1 (He.cT K ("law", none)).2 → FnOk P w K mg base (L2N.CX P w) 6 f fd ["_law_script"] (@spX T K S_law 1) := by
  letI T0 : NM.Tbs := ⟨[((He.cT K ("law", none)).2, (envOfC "law" (defScope (top 30)) 0 0 .none).qual ++ "<lambda>")]⟩
  have cd := c.t.d
  have fact : ∀ x ∈ fa, x.ok K = true := fun x hx => cd.facts hx
  have frs : Free mg := Free.of fun x hx => He.free_ok X G (fact _ (by unfold fa; simp only [List.mem_append]; exact .inl (.inl (.inl (.inl (.inl (List.mem_map.mpr ⟨x, hx, rfl⟩)))))))
  have glo : ∀ x ∈ (["is_count", "is_name", "need_name", "need_point", "need_size", "reach", "apart", "far", "near_size", "_law_cell", "_law_drawn", "_law_word", "_law_told", "_law_point", "_law_far", "_law_near", "law", "MarkError", "BadName", "BadPoint", "BadSize", "BadHeap", "BadText"] : List Str), mg x = some (.ref (He.ga K x)) := fun x hx => He.glo_ok X G (fact (.glo x) (by
    simp only [List.mem_cons, List.not_mem_nil, or_false] at hx
    unfold fa
    simp only [List.mem_append, List.mem_cons]
    rcases hx with rfl | rfl | rfl | rfl | rfl | rfl | rfl | rfl | rfl | rfl | rfl | rfl | rfl | rfl | rfl | rfl | rfl | rfl | rfl | rfl | rfl | rfl | rfl <;> simp))
  have exc : ∀ x ∈ names5, (He.Fa.exc x).ok K = true := fun x hx => fact _ (by unfold fa; simp only [List.mem_append]; exact .inl (.inr (List.mem_map.mpr ⟨x, hx, rfl⟩)))
  have exm : ∀ x ∈ names5, PySem.W.exmOne K (.ref (He.ga K x)) (.ref (He.ga K "MarkError")) = some true := fun x hx => He.exm_ok (fact (.exm x "MarkError" true) (by unfold fa; simp only [List.mem_append]; exact .inr (List.mem_map.mpr ⟨x, hx, rfl⟩)))
  have gcl : ∀ x ∈ names5, mg x = some (.ref (He.ga K x)) := fun x hx => glo x (by
    simp only [names5, List.mem_cons, List.not_mem_nil, or_false] at hx
    rcases hx with rfl | rfl | rfl | rfl | rfl <;> simp)
  have mkEx : ∀ x ∈ names5, Ex K mg x (He.ga K x) := fun x hx => by
    obtain ⟨e1, e2, e3, e4⟩ := He.exc_ok (exc x hx)
    exact ⟨e1, gcl x hx, e2, e3, e4⟩
  have exs : Exs K mg := ⟨mkEx _ (by simp [names5]), mkEx _ (by simp [names5]), mkEx _ (by simp [names5])⟩
  obtain ⟨m1, m2⟩ := He.ba (show (He.tupB K "REACHES" rcs && wordsB K) = true from c.more)
  have cn : Cn K mg := ⟨He.str_ok X G (fact _ (by unfold fa; simp)), He.int_ok X G (fact (.int "MOST_WORD" 6) (by unfold fa; simp)), He.int_ok X G (fact (.int "MOST_SIDE" 4095) (by unfold fa; simp)), He.int_ok X G (fact (.int "MOST_SIZE" 13) (by unfold fa; simp)), He.glo_ok X G (fact (.glo "REACHES") (by unfold fa; simp)), fun H => He.tupB_ok m1 H⟩
  have wds : Words K mg (words K) := by
    have all1 := List.all_eq_true.mp (show names5.all _ = true from m2)
    refine ⟨fun p hp => ?_, fun p hp => ?_, fun p hp q hq => ?_, fun p hp => ?_⟩
    · obtain ⟨x, hx, rfl⟩ := List.mem_map.mp hp
      exact gcl x hx
    · obtain ⟨x, hx, rfl⟩ := List.mem_map.mp hp
      exact excB_ok (He.ba (all1 x hx)).1
    · obtain ⟨x, hx, rfl⟩ := List.mem_map.mp hp
      obtain ⟨y, hy, rfl⟩ := List.mem_map.mp hq
      exact of_decide_eq_true (List.all_eq_true.mp (He.ba (He.ba (all1 x hx)).2).2 y hy)
    · obtain ⟨x, hx, rfl⟩ := List.mem_map.mp hp
      exact of_decide_eq_true (He.ba (He.ba (all1 x hx)).2).1
  have df : ∀ x i, dd x i ∈ fn → x ∈ (["is_count", "is_name", "need_name", "need_point", "need_size", "reach", "apart", "far", "near_size", "_law_cell", "_law_drawn", "_law_word", "_law_told", "_law_point", "_law_far", "_law_near", "law", "MarkError", "BadName", "BadPoint", "BadSize", "BadHeap", "BadText"] : List Str) → Df K mg x i := fun x i h1 h2 => by
    obtain ⟨fd, F⟩ := cd.defs h1
    exact ⟨_, fd, F, glo x h2⟩
  obtain ⟨fdT, FT⟩ := cd.defs (d := dd "_law_told" 26) (by unfold fn; simp)
  obtain ⟨fdW, FW⟩ := cd.defs (d := dd "_law_word" 25) (by unfold fn; simp)
  obtain ⟨fd, FL⟩ := cd.defs (d := dd "law" 30) (by unfold fn; simp)
  have e := hfa.symm.trans (glo "law" (by simp))
  cases e
  have b := FunD.bindsA (ps := ["_law_script"]) FL fun _ _ _ _ _ _ us hl => match us, hl with | [_], _ => rfl
  obtain ⟨oc, od, dV, kV, doc, pm, an, cdv, ct, osl, rfl, lk, hcd, _, _⟩ := FL.ex
  obtain ⟨cc, rfl⟩ := He.codeIn_ref hcd
  have ec : He.codeOf K ("law", none) = cc := He.codeOf_eq lk rfl
  refine ⟨_, T0, rfl, fun s v => b s [v] rfl, fun base B1 B2 TB => ?_⟩
  have TB' : LamX.TabB base mg cc (He.cT K ("law", none)).2 := by
    rw [← ec]
    exact TB
  have g1 := ok_is_count (P := P) (w := w) (base := base) frs (df _ _ (by unfold fn; simp) (by simp))
  have g2 := ok_is_name (P := P) (w := w) (base := base) frs cn (df _ _ (by unfold fn; simp) (by simp))
  have g3 := ok_need_name exs (df _ _ (by unfold fn; simp) (by simp)) g2
  have g4 := ok_need_size cn exs (df _ _ (by unfold fn; simp) (by simp)) g1
  have g5 := ok_need_point frs cn exs (df _ _ (by unfold fn; simp) (by simp)) g1
  have g6 := ok_reach (P := P) (w := w) (base := base) cn (df _ _ (by unfold fn; simp) (by simp))
  have g7 := ok_apart (P := P) (w := w) (base := base) frs (df _ _ (by unfold fn; simp) (by simp))
  have g8 := ok_far (df _ _ (by unfold fn; simp) (by simp)) g5 g7
  have g9 := ok_near_size frs cn (df _ _ (by unfold fn; simp) (by simp)) g5 g7 g6
  have l1 := ok__law_cell (P := P) (w := w) (base := base) frs (df _ _ (by unfold fn; simp) (by simp))
  have l2 := ok__law_drawn (P := P) (w := w) (K := K) (mg := mg) (base := base) (df _ _ (by unfold fn; simp) (by simp))
  have l3 := ok__law_point (P := P) (w := w) (K := K) (mg := mg) (base := base) (df _ _ (by unfold fn; simp) (by simp))
  have l4 := ok__law_far (P := P) (w := w) (base := base) frs (df _ _ (by unfold fn; simp) (by simp))
  have l5 := ok__law_near (df _ _ (by unfold fn; simp) (by simp)) l4
  have lw := ok__law_word (P := P) (w := w) (base := base) frs wds FW
  exact ok_law frs lk hcd FT (glo "_law_told" (by simp)) FW (glo "_law_word" (by simp)) lw (glo "MarkError" (by simp)) exm TB' rfl l1 l2 l3 l4 l5 g8 g9 g5 g3 g4
end NMH
open PySem PySem.W PySem.Calls PyProof.Rows
theorem PySem.Challenge.cw_nearmarks_k10_points_holds : PySem.Challenge.rw_nearmarks_k10_points.Holds := by
  w_on; o_law
  refine HandSHeadRun.head_any (r := OpenLaw.row PySem.Challenge.rw_nearmarks_k10_points) (q := view (OpenLaw.row PySem.Challenge.rw_nearmarks_k10_points).prog [30]) (H := NMH.hk) (ob := NMH.ob) (M := 4000) (loose := NMH.loose) (d := HandSHeadRun.topDef (OpenLaw.row PySem.Challenge.rw_nearmarks_k10_points).prog 30) (kwd := []) NMH.ob_eq
    (by kernel_rfl) (fun s => by kernel_rfl) NMH.run (by kernel_rfl) (by kernel_rfl) (by kernel_rfl) (by rfl) (by first | assumption | decide +kernel) (by decide +kernel) ⟨rfl, rfl, rfl, rfl, rfl, by decide +kernel⟩ ?hw ?hc
  case hw => w_witness2
  case hc =>
    refine LamX.walk_ofTsE (l := PySem.Challenge.rw_nearmarks_k10_points) (n := 63) (k := 6) (x := "_law_script") (CX := fun w => L2N.CX (PySem.Challenge.rw_nearmarks_k10_points).prog w) rfl (by decide) (by kernel_rfl) ⟨rfl, by decide, by decide⟩ ?F (fun _ _ _ _ _ z => by
      obtain ⟨_, _, _, _, _, _, _, _, _, _, _, _, z⟩ := z
      exact z)
    intro w mg fa h Y G hmg0
    obtain ⟨K, KX, c⟩ := Y
    have hmg : mg ("law" : PySem.Str) = some (.ref fa) := by
      have e : (HandSHeadRun.topDef (OpenLaw.row PySem.Challenge.rw_nearmarks_k10_points).prog 30).name = ("law" : PySem.Str) := by kernel_rfl
      rw [← e]
      exact hmg0
    obtain ⟨fd, T, eT, hb, hF⟩ := NMH.facts (P := (PySem.Challenge.rw_nearmarks_k10_points).prog) (w := w) KX G hmg c
    have m1 : (("law", none) : He.Defn) ∈ NMH.tf := List.mem_cons_self
    refine ⟨K, KX, fd, [He.cT K ("law", none)], _, fun p hp => ?_, fun p hp => ?_, fun p hp => ?_, hb, fun H a ns hl _ hT hS => ?_, fun base B1 B2 TB => hF base B1 B2 (TB _ List.mem_cons_self)⟩
    · rw [List.mem_singleton.mp hp]
      exact c.empty _ m1
    · rw [List.mem_singleton.mp hp]
      exact c.out _ m1
    · rw [List.mem_singleton.mp hp]
      exact PySem.W.codeHd_of_K KX (c.hd _ m1)
    · refine ⟨fun _ => none, [.lo (NM.oS ns)], _, rfl, (fun _ _ _ z => nomatch z), (fun p hp => ?_), .cons ⟨a, rfl, hS⟩ .nil, NM.S_law.mk ns hl, fun v F' H' g r => NM.Rp.inv_bl r⟩
      rw [eT] at hp
      rw [List.mem_singleton.mp hp]
      exact LamX.TabS.nil (hT _ List.mem_cons_self)
