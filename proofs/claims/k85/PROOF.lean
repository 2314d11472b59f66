import PyProof.Rows.All
import Wide.All
import OpenK.AllK
import Wide.FinOn
import HandS.ForMost
import HandS.ForExc
import HandS.AnyAll
import HandS.GenBody
import HandS.IsInst
import HandS.TupAny
import HandS.Deep
import HandS.Zip
import HandS.ExcValue
import HandS.Replace
import HandS.TupSets
import HandS.Strs
import HandS.SetBool
import HandS.DictTup
import KE.KDictWalk
import KE.KItemsList
import KE.KDictZip
import HandS.ListItems
import HandS.DictComp
import PyProof.ConsumeS
import HandS.Style
import HandS.TupLen
import HandS.Defaults
import HandS.WordsDict
import HandS.More
import HandS.SetFor
import HandS.Iter
import KE.KStateDown
import KE.KNestM
import HandS.Head0
import HandS.Head1
import HandS.Head2
import HandS.HeadEnd
import HandS.HeadHook1
import HandS.HeadHook2
import HandS.HeadWalk
import HandS.EndTab
import PySem.Challenge.RW_streakbook_k85_least_boxes_judged
set_option Elab.async false
set_option linter.all false
set_option maxRecDepth 100000
set_option maxHeartbeats 4000000
/-! Data over the hand layer: values as trees, what is owned and may change apart. -/
namespace DL
open PySem PySem.Spec PyProof.Rows L2
/-- data: what a value is worth -/
inductive D where
  | non | bl (b : Bool) | int (i : Int) | str (x : Str) | ty (n : String) | ref (a : Addr)
  | tup (xs : List D) | tupF (xs : List D) | tupP (xs : List D) | lst (xs : List D) | lstQ (xs : List D) | obj (C : Addr) (fs : List (Str × D))
  | dK (kvs : List (Key × D)) | dKF (kvs : List (Key × D)) | dT (kvs : List (List Key × D))
def KTup (K : PySem.W.Frag) (a : Addr) (xs : List V) : Prop :=
  ∃ (o : Obj) (its : Array Value) (n : Nat), K.lookup a = some o ∧ o.cls = .type "tuple" ∧ o.data = .seq its n ∧ its.size ≤ sizeLine ∧ Vals xs its.toList
def KLst (K : PySem.W.Frag) (a : Addr) (xs : List V) : Prop :=
  ∃ (o : Obj) (its : Array Value) (n : Nat), K.lookup a = some o ∧ o.cls = .type "list" ∧ o.dict = none ∧ o.data = .seq its n ∧ its.size ≤ sizeLine ∧ Vals xs its.toList
mutual
inductive Rep (K : PySem.W.Frag) (M : List Addr) (H : Hp) : V → D → Prop where
  | non : Rep K M H .non .non
  | bl (b : Bool) : Rep K M H (.bl b) (.bl b)
  | int (i : Int) : Rep K M H (.int i) (.int i)
  | str (x : Str) : Rep K M H (.str x) (.str x)
  | ty (n : String) : Rep K M H (.ty n) (.ty n)
  | ref (a : Addr) : Rep K M H (.ref a) (.ref a)
  | tupK {a : Addr} {vs : List V} {ds : List D} : KTup K a vs → Reps K M H vs ds → Rep K M H (.ref a) (.tup ds)
  | tup {a : Addr} {vs : List V} {ds : List D} : a ∉ M → Rd H a (.tup vs) → Reps K M H vs ds → Rep K M H (.ref a) (.tup ds)
  | tupF {a : Addr} {vs : List V} {ds : List D} {o : Obj} : a ∉ M → H a = some (.frz o (.tup vs)) → o.dict = none → Reps K M H vs ds → Rep K M H (.ref a) (.tupF ds)
  | tupP {a : Addr} {vs : List V} {ds : List D} : a ∉ M → H a = some (.tup vs) → Reps K M H vs ds → Rep K M H (.ref a) (.tupP ds)
  | lst {a : Addr} {vs : List V} {ds : List D} : a ∉ M → Rd H a (.lst vs) → Reps K M H vs ds → Rep K M H (.ref a) (.lst ds)
  | lstQ {a : Addr} {vs : List V} {ds : List D} : KLst K a vs ∨ (a ∉ M ∧ Rd H a (.lst vs)) → Reps K M H vs ds → Rep K M H (.ref a) (.lstQ ds)
  | obj {a C dx : Addr} {fs : List (Str × V)} {gs : List (Str × D)} : a ∉ M → H a = some (.ins C dx fs) → fs.map (·.1) = gs.map (·.1) → Reps K M H (fs.map (·.2)) (gs.map (·.2)) → Rep K M H (.ref a) (.obj C gs)
  | dK {a : Addr} {fs : List (Key × V)} {gs : List (Key × D)} : a ∉ M → Rd H a (.dK fs) → fs.map (·.1) = gs.map (·.1) → Reps K M H (fs.map (·.2)) (gs.map (·.2)) → Rep K M H (.ref a) (.dK gs)
  | dKF {a : Addr} {o : Obj} {fs : List (Key × V)} {gs : List (Key × D)} : a ∉ M → H a = some (.frz o (.dK fs)) → fs.map (·.1) = gs.map (·.1) → Reps K M H (fs.map (·.2)) (gs.map (·.2)) → Rep K M H (.ref a) (.dKF gs)
  | dT {a : Addr} {fs : List (List Key × V)} {gs : List (List Key × D)} : a ∉ M → Rd H a (.dT fs) → fs.map (·.1) = gs.map (·.1) → Reps K M H (fs.map (·.2)) (gs.map (·.2)) → Rep K M H (.ref a) (.dT gs)
inductive Reps (K : PySem.W.Frag) (M : List Addr) (H : Hp) : List V → List D → Prop where
  | nil : Reps K M H [] []
  | cons {v : V} {d : D} {vs : List V} {ds : List D} : Rep K M H v d → Reps K M H vs ds → Reps K M H (v :: vs) (d :: ds)
end
section
variable {K : PySem.W.Frag} {M M' : List Addr} {H H' : Hp}
theorem Reps.length : ∀ {vs : List V} {ds : List D}, Reps K M H vs ds → vs.length = ds.length
  | _, _, .nil => rfl
  | _, _, .cons _ t => congrArg (· + 1) (Reps.length t)
theorem Reps.get : ∀ {vs : List V} {ds : List D} {i : Nat} {d : D}, Reps K M H vs ds → ds[i]? = some d → ∃ v, vs[i]? = some v ∧ Rep K M H v d
  | _, _, _, _, .nil, e => by simp at e
  | _, _, 0, _, .cons r _, e => by simp at e; subst e; exact ⟨_, rfl, r⟩
  | _, _, i + 1, d, .cons _ t, e => by
    obtain ⟨v, h1, h2⟩ := Reps.get (i := i) (d := d) t (by simpa using e)
    exact ⟨v, by simpa using h1, h2⟩
theorem Reps.getV : ∀ {vs : List V} {ds : List D} {i : Nat} {v : V}, Reps K M H vs ds → vs[i]? = some v → ∃ d, ds[i]? = some d ∧ Rep K M H v d
  | _, _, _, _, .nil, e => by simp at e
  | _, _, 0, _, .cons r _, e => by simp at e; subst e; exact ⟨_, rfl, r⟩
  | _, _, i + 1, d, .cons _ t, e => by
    obtain ⟨v, h1, h2⟩ := Reps.getV (i := i) (v := d) t (by simpa using e)
    exact ⟨v, by simpa using h1, h2⟩
theorem Reps.append : ∀ {vs ws : List V} {ds es : List D}, Reps K M H vs ds → Reps K M H ws es → Reps K M H (vs ++ ws) (ds ++ es)
  | _, _, _, _, .nil, s => s
  | _, _, _, _, .cons r t, s => .cons r (Reps.append t s)
theorem Reps.take : ∀ {vs : List V} {ds : List D} (n : Nat), Reps K M H vs ds → Reps K M H (vs.take n) (ds.take n)
  | _, _, 0, _ => .nil
  | _, _, _ + 1, .nil => .nil
  | _, _, n + 1, .cons r t => .cons r (Reps.take n t)
theorem Reps.drop : ∀ {vs : List V} {ds : List D} (n : Nat), Reps K M H vs ds → Reps K M H (vs.drop n) (ds.drop n)
  | _, _, 0, r => r
  | _, _, _ + 1, .nil => .nil
  | _, _, n + 1, .cons _ t => Reps.drop n t
theorem Reps.set {v : V} {d : D} (r : Rep K M H v d) : ∀ {vs : List V} {ds : List D} (i : Nat), Reps K M H vs ds → Reps K M H (vs.set i v) (ds.set i d)
  | _, _, _, .nil => .nil
  | _, _, 0, .cons _ t => .cons r t
  | _, _, i + 1, .cons q t => .cons q (Reps.set r i t)
theorem Reps.reverse : ∀ {vs : List V} {ds : List D}, Reps K M H vs ds → Reps K M H vs.reverse ds.reverse
  | _, _, .nil => .nil
  | _, _, .cons r t => by
    rw [List.reverse_cons, List.reverse_cons]
    exact (Reps.reverse t).append (.cons r .nil)
theorem Reps.ints : ∀ {vs : List V} {ns : List Int}, Reps K M H vs (ns.map D.int) → vs = ns.map V.int
  | [], [], _ => rfl
  | _ :: _, n :: ns, .cons r t => by
    cases r
    rw [Reps.ints (ns := ns) t]
    rfl
theorem Reps.strs : ∀ {vs : List V} {ns : List Str}, Reps K M H vs (ns.map D.str) → vs = ns.map V.str
  | [], [], _ => rfl
  | _ :: _, n :: ns, .cons r t => by
    cases r
    rw [Reps.strs (ns := ns) t]
    rfl
theorem Reps.bls : ∀ {vs : List V} {ns : List Bool}, Reps K M H vs (ns.map D.bl) → vs = ns.map V.bl
  | [], [], _ => rfl
  | _ :: _, n :: ns, .cons r t => by
    cases r
    rw [Reps.bls (ns := ns) t]
    rfl
theorem Reps.ofInts : ∀ ns : List Int, Reps K M H (ns.map V.int) (ns.map D.int)
  | [] => .nil
  | n :: ns => .cons (.int n) (Reps.ofInts ns)
theorem Reps.ofStrs : ∀ ns : List Str, Reps K M H (ns.map V.str) (ns.map D.str)
  | [] => .nil
  | n :: ns => .cons (.str n) (Reps.ofStrs ns)
/-- from H to H': all but M stands; what M' has more was new -/
structure Ext (M M' : List Addr) (H H' : Hp) : Prop where
  keep : ∀ a o, a ∉ M → H a = some o → H' a = some o ∨ ((∃ ps, o = .tbl ps) ∧ ∃ ps', H' a = some (.tbl ps'))
  new : ∀ a, a ∈ M' → a ∉ M → H a = none
theorem Ext.kp {a : Addr} {o : HO} (e : Ext M M' H H') (ha : a ∉ M) (h : H a = some o) (ht : ∀ ps, o ≠ .tbl ps) : H' a = some o := by
  rcases e.keep a o ha h with q | ⟨⟨ps, q⟩, _⟩
  · exact q
  · exact absurd q (ht ps)
theorem Ext.refl (M : List Addr) (H : Hp) : Ext M M H H := ⟨fun _ _ _ h => .inl h, fun _ h n => absurd h n⟩
theorem Ext.some' {a : Addr} {o : HO} (e : Ext M M' H H') (ha : a ∉ M) (h : H a = some o) : ∃ o', H' a = some o' := by
  rcases e.keep a o ha h with q | ⟨_, ps, q⟩
  · exact ⟨_, q⟩
  · exact ⟨_, q⟩
theorem Ext.nmem {a : Addr} {o : HO} (e : Ext M M' H H') (ha : a ∉ M) (h : H a = some o) : a ∉ M' := fun z => by
  rw [e.new a z ha] at h
  cases h
theorem Ext.trans {M1 M2 M3 : List Addr} {H1 H2 H3 : Hp} (a : Ext M1 M2 H1 H2) (b : Ext M2 M3 H2 H3) : Ext M1 M3 H1 H3 := by
  refine ⟨fun x o hx h => ?_, fun x h3 h1 => ?_⟩
  · have n2 := a.nmem hx h
    rcases a.keep x o hx h with q | ⟨⟨ps, e⟩, ps', q⟩
    · exact b.keep x o n2 q
    · rcases b.keep x _ n2 q with r | ⟨_, ps2, r⟩
      · exact .inr ⟨⟨ps, e⟩, ps', r⟩
      · exact .inr ⟨⟨ps, e⟩, ps2, r⟩
  · by_cases h2 : x ∈ M2
    · exact a.new x h2 h1
    · cases q : H1 x with
      | none => rfl
      | some o =>
        obtain ⟨o', q'⟩ := a.some' h1 q
        rw [b.new x h3 h2] at q'
        cases q'
/-- fewer addresses are owned at the end -/
theorem Ext.less {M2 : List Addr} (e : Ext M M' H H') (h : ∀ a, a ∈ M2 → a ∈ M') : Ext M M2 H H' := ⟨e.keep, fun a ha => e.new a (h a ha)⟩
theorem Rd.ext {a : Addr} {u : HO} (e : Ext M M' H H') (ha : a ∉ M) (r : Rd H a u) (hu : ∀ ps, u ≠ .tbl ps) : Rd H' a u := by
  rcases r with r | ⟨o, r⟩
  · exact .inl (e.kp ha r hu)
  · exact .inr ⟨o, e.kp ha r (fun ps z => by cases z)⟩
theorem Rd.nmem {a : Addr} {u : HO} (e : Ext M M' H H') (ha : a ∉ M) (r : Rd H a u) : a ∉ M' := by
  rcases r with r | ⟨o, r⟩
  · exact e.nmem ha r
  · exact e.nmem ha r
mutual
theorem Rep.ext (e : Ext M M' H H') : ∀ {v : V} {d : D}, Rep K M H v d → Rep K M' H' v d
  | _, _, .non => .non
  | _, _, .bl b => .bl b
  | _, _, .int i => .int i
  | _, _, .str x => .str x
  | _, _, .ty n => .ty n
  | _, _, .ref a => .ref a
  | _, _, .tupK h r => .tupK h (Reps.ext e r)
  | _, _, .tup ha h r => .tup (Rd.nmem e ha h) (Rd.ext e ha h fun _ z => by cases z) (Reps.ext e r)
  | _, _, .tupP ha h r => .tupP (e.nmem ha h) (e.kp ha h fun _ z => by cases z) (Reps.ext e r)
  | _, _, .tupF ha h n r => .tupF (e.nmem ha h) (e.kp ha h fun _ z => by cases z) n (Reps.ext e r)
  | _, _, .lst ha h r => .lst (Rd.nmem e ha h) (Rd.ext e ha h fun _ z => by cases z) (Reps.ext e r)
  | _, _, .lstQ h r => .lstQ (h.imp_right fun ⟨ha, h⟩ => ⟨Rd.nmem e ha h, Rd.ext e ha h fun _ z => by cases z⟩) (Reps.ext e r)
  | _, _, .obj ha h q r => .obj (e.nmem ha h) (e.kp ha h fun _ z => by cases z) q (Reps.ext e r)
  | _, _, .dK ha h q r => .dK (Rd.nmem e ha h) (Rd.ext e ha h fun _ z => by cases z) q (Reps.ext e r)
  | _, _, .dT ha h q r => .dT (Rd.nmem e ha h) (Rd.ext e ha h fun _ z => by cases z) q (Reps.ext e r)
  | _, _, .dKF ha h q r => .dKF (e.nmem ha h) (e.kp ha h fun _ z => by cases z) q (Reps.ext e r)
theorem Reps.ext (e : Ext M M' H H') : ∀ {vs : List V} {ds : List D}, Reps K M H vs ds → Reps K M' H' vs ds
  | _, _, .nil => .nil
  | _, _, .cons r t => .cons (Rep.ext e r) (Reps.ext e t)
end
mutual
theorem Rep.less (h : ∀ a, a ∈ M' → a ∈ M) : ∀ {v : V} {d : D}, Rep K M H v d → Rep K M' H v d
  | _, _, .non => .non
  | _, _, .bl b => .bl b
  | _, _, .int i => .int i
  | _, _, .str x => .str x
  | _, _, .ty n => .ty n
  | _, _, .ref a => .ref a
  | _, _, .tupK q r => .tupK q (Reps.less h r)
  | _, _, .tup ha q r => .tup (fun z => ha (h _ z)) q (Reps.less h r)
  | _, _, .tupF ha q n r => .tupF (fun z => ha (h _ z)) q n (Reps.less h r)
  | _, _, .tupP ha q r => .tupP (fun z => ha (h _ z)) q (Reps.less h r)
  | _, _, .lst ha q r => .lst (fun z => ha (h _ z)) q (Reps.less h r)
  | _, _, .lstQ q r => .lstQ (q.imp_right fun ⟨ha, q⟩ => ⟨fun z => ha (h _ z), q⟩) (Reps.less h r)
  | _, _, .obj ha q e r => .obj (fun z => ha (h _ z)) q e (Reps.less h r)
  | _, _, .dK ha q e r => .dK (fun z => ha (h _ z)) q e (Reps.less h r)
  | _, _, .dT ha q e r => .dT (fun z => ha (h _ z)) q e (Reps.less h r)
  | _, _, .dKF ha q e r => .dKF (fun z => ha (h _ z)) q e (Reps.less h r)
theorem Reps.less (h : ∀ a, a ∈ M' → a ∈ M) : ∀ {vs : List V} {ds : List D}, Reps K M H vs ds → Reps K M' H vs ds
  | _, _, .nil => .nil
  | _, _, .cons r t => .cons (Rep.less h r) (Reps.less h t)
end
end
/-! ### what is owned -/
theorem Rep.unP {K : PySem.W.Frag} {M : List Addr} {H : Hp} {v : V} {ds : List D} (r : Rep K M H v (.tupP ds)) : Rep K M H v (.tup ds) := by
  cases r with
  | tupP n h q => exact .tup n (.inl h) q
theorem Rep.unF {K : PySem.W.Frag} {M : List Addr} {H : Hp} {v : V} {ds : List D} (r : Rep K M H v (.tupF ds)) : Rep K M H v (.tup ds) := by
  cases r with
  | tupF n h _ q => exact .tup n (.inr ⟨_, h⟩) q
abbrev Sto := List (Addr × D)
abbrev mm (S : Sto) : List Addr := S.map (·.1)
/-- at a stands an object that is worth d -/
def RepAt (K : PySem.W.Frag) (M : List Addr) (H : Hp) (a : Addr) : D → Prop
  | .lst ds => ∃ vs, H a = some (.lst vs) ∧ Reps K M H vs ds
  | .obj C gs => ∃ dx fs, H a = some (.ins C dx fs) ∧ fs.map (·.1) = gs.map (·.1) ∧ Reps K M H (fs.map (·.2)) (gs.map (·.2))
  | .dK gs => ∃ fs, H a = some (.dK fs) ∧ fs.map (·.1) = gs.map (·.1) ∧ Reps K M H (fs.map (·.2)) (gs.map (·.2))
  | .dT gs => ∃ fs, H a = some (.dT fs) ∧ fs.map (·.1) = gs.map (·.1) ∧ Reps K M H (fs.map (·.2)) (gs.map (·.2))
  | _ => False
structure GoodS (K : PySem.W.Frag) (T : List Addr) (H : Hp) (S : Sto) : Prop where
  own : ∀ p ∈ S, RepAt K (mm S) H p.1 p.2
  nd : (mm S).Nodup
  tab : ∀ P ∈ T, GxR.TabG H P
abbrev Rho := List (Option D)
structure Slots (K : PySem.W.Frag) (M : List Addr) (H : Hp) (σ : L2.St) (ρ : Rho) : Prop where
  len : σ.length = ρ.length
  at_ : ∀ (i : Nat) (d : D), ρ[i]? = some (some d) → ∃ v, σ[i]? = some (some v) ∧ Rep K M H v d
section
variable {K : PySem.W.Frag} {T : List Addr} {M M' : List Addr} {H H' : Hp} {S S' : Sto} {σ : L2.St} {ρ : Rho}
theorem RepAt.some' {a : Addr} {d : D} (r : RepAt K M H a d) : ∃ o, H a = some o ∧ (∀ ps, o ≠ .tbl ps) ∧ Mut (some o) ∧ ∀ xs, o ≠ .tup xs := by
  cases d with
  | lst ds => obtain ⟨vs, h, _⟩ := r; exact ⟨_, h, fun _ z => (by cases z), trivial, fun _ z => (by cases z)⟩
  | obj C gs => obtain ⟨dx, fs, h, _⟩ := r; exact ⟨_, h, fun _ z => (by cases z), trivial, fun _ z => (by cases z)⟩
  | dK gs => obtain ⟨fs, h, _⟩ := r; exact ⟨_, h, fun _ z => (by cases z), trivial, fun _ z => (by cases z)⟩
  | dT gs => obtain ⟨fs, h, _⟩ := r; exact ⟨_, h, fun _ z => (by cases z), trivial, fun _ z => (by cases z)⟩
  | _ => exact r.elim
/-- the object itself stands, all it speaks of too -/
theorem RepAt.ext {a : Addr} {d : D} (r : RepAt K M H a d) (e : Ext M M' H H') (h : ∀ o, H a = some o → H' a = some o) : RepAt K M' H' a d := by
  cases d with
  | lst ds => obtain ⟨vs, q, r⟩ := r; exact ⟨vs, h _ q, r.ext e⟩
  | obj C gs => obtain ⟨dx, fs, q, z, r⟩ := r; exact ⟨dx, fs, h _ q, z, r.ext e⟩
  | dK gs => obtain ⟨fs, q, z, r⟩ := r; exact ⟨fs, h _ q, z, r.ext e⟩
  | dT gs => obtain ⟨fs, q, z, r⟩ := r; exact ⟨fs, h _ q, z, r.ext e⟩
  | _ => exact r.elim
theorem RepAt.less {a : Addr} {d : D} (r : RepAt K M H a d) (h : ∀ a, a ∈ M' → a ∈ M) : RepAt K M' H a d := by
  cases d with
  | lst ds => obtain ⟨vs, q, r⟩ := r; exact ⟨vs, q, r.less h⟩
  | obj C gs => obtain ⟨dx, fs, q, z, r⟩ := r; exact ⟨dx, fs, q, z, r.less h⟩
  | dK gs => obtain ⟨fs, q, z, r⟩ := r; exact ⟨fs, q, z, r.less h⟩
  | dT gs => obtain ⟨fs, q, z, r⟩ := r; exact ⟨fs, q, z, r.less h⟩
  | _ => exact r.elim
/-- what was owned is data from now on -/
theorem RepAt.froz {a : Addr} {d : D} (r : RepAt K M H a d) (h : a ∉ M) : Rep K M H (.ref a) d := by
  cases d with
  | lst ds => obtain ⟨vs, q, r⟩ := r; exact .lst h (.inl q) r
  | obj C gs => obtain ⟨dx, fs, q, z, r⟩ := r; exact .obj h q z r
  | dK gs => obtain ⟨fs, q, z, r⟩ := r; exact .dK h (.inl q) z r
  | dT gs => obtain ⟨fs, q, z, r⟩ := r; exact .dT h (.inl q) z r
  | _ => exact r.elim
theorem Slots.ext (s : Slots K M H σ ρ) (e : Ext M M' H H') : Slots K M' H' σ ρ := ⟨s.len, fun i d h => let ⟨v, q, r⟩ := s.at_ i d h; ⟨v, q, r.ext e⟩⟩
theorem Slots.less (s : Slots K M H σ ρ) (h : ∀ a, a ∈ M' → a ∈ M) : Slots K M' H σ ρ := ⟨s.len, fun i d q => let ⟨v, q, r⟩ := s.at_ i d q; ⟨v, q, r.less h⟩⟩
theorem Slots.set {v : V} {d : D} (s : Slots K M H σ ρ) (r : Rep K M H v d) (i : Nat) : Slots K M H (σ.set i (some v)) (ρ.set i (some d)) := by
  refine ⟨by rw [List.length_set, List.length_set]; exact s.len, fun j e h => ?_⟩
  by_cases hj : i = j
  · subst hj
    rw [List.getElem?_set] at h
    rw [if_pos rfl] at h
    by_cases hl : i < ρ.length
    · rw [if_pos hl] at h
      cases h
      exact ⟨v, by rw [List.getElem?_set, if_pos rfl, if_pos (by rw [s.len]; exact hl)], r⟩
    · rw [if_neg hl] at h
      cases h
  · rw [List.getElem?_set_ne hj] at h
    obtain ⟨w, q, z⟩ := s.at_ j e h
    exact ⟨w, by rw [List.getElem?_set_ne hj]; exact q, z⟩
theorem GoodS.some' (g : GoodS K T H S) {p : Addr × D} (hp : p ∈ S) : ∃ o, H p.1 = some o := let ⟨o, h, _⟩ := (g.own p hp).some'; ⟨o, h⟩
theorem GoodS.memM (g : GoodS K T H S) {a : Addr} (h : a ∈ (mm S)) : ∃ o, H a = some o ∧ (∀ ps, o ≠ .tbl ps) := by
  obtain ⟨p, hp, e⟩ := List.mem_map.mp h
  obtain ⟨o, q, t, _⟩ := (g.own p hp).some'
  exact ⟨o, by rw [← e]; exact q, t⟩
/-- a new object, not owned -/
theorem Ext.new1 {p : Addr} {o : HO} (hp : H p = none) : Ext M M H (upd H p o) :=
  ⟨fun a u _ h => .inl (by rw [upd_ne (ne_of_none h hp)]; exact h), fun a h n => absurd h n⟩
theorem TabG.upd {P p : Addr} {o : HO} (t : GxR.TabG H P) (hp : H p = none) : GxR.TabG (upd H p o) P := by
  obtain ⟨ps, h, q⟩ := t
  exact ⟨ps, by rw [upd_ne (ne_of_none h hp)]; exact h, q⟩
theorem GoodS.new1 {p : Addr} {o : HO} (g : GoodS K T H S) (hp : H p = none) : GoodS K T (upd H p o) S :=
  ⟨fun q hq => (g.own q hq).ext (Ext.new1 hp) fun u h => by rw [upd_ne (ne_of_none h hp)]; exact h, g.nd, fun P h => TabG.upd (g.tab P h) hp⟩
/-- a new object, owned -/
theorem Ext.newO {p : Addr} {o : HO} (hp : H p = none) : Ext M (M ++ [p]) H (upd H p o) :=
  ⟨fun a u _ h => .inl (by rw [upd_ne (ne_of_none h hp)]; exact h), fun a h n => by
    rcases List.mem_append.mp h with h | h
    · exact absurd h n
    · rw [List.mem_singleton.mp h]; exact hp⟩
theorem mm_append (S S' : Sto) : mm (S ++ S') = mm S ++ mm S' := List.map_append
theorem GoodS.newO {p : Addr} {o : HO} {d : D} (g : GoodS K T H S) (hp : H p = none) (r : RepAt K ((mm S) ++ [p]) (upd H p o) p d) : GoodS K T (upd H p o) (S ++ [(p, d)]) := by
  have eM : mm (S ++ [(p, d)]) = (mm S) ++ [p] := mm_append S [(p, d)]
  refine ⟨fun q hq => ?_, ?_, fun P h => TabG.upd (g.tab P h) hp⟩
  · rw [eM]
    rcases List.mem_append.mp hq with hq | hq
    · exact (g.own q hq).ext (Ext.newO hp) fun u h => by rw [upd_ne (ne_of_none h hp)]; exact h
    · rw [List.mem_singleton.mp hq]
      exact r
  · rw [eM]
    refine List.nodup_append.mpr ⟨g.nd, by simp, fun a ha b hb => ?_⟩
    rw [List.mem_singleton.mp hb]
    intro z
    obtain ⟨o, h, _⟩ := g.memM ha
    rw [z, hp] at h
    cases h
/-- some of the owned -/
theorem GoodS.less (g : GoodS K T H S) (h : S'.Sublist S) : GoodS K T H S' := by
  have hm : ∀ a, a ∈ (mm S') → a ∈ (mm S) := fun a ha => (h.map (·.1)).subset ha
  exact ⟨fun p hp => (g.own p (h.subset hp)).less hm, g.nd.sublist (h.map (·.1)), g.tab⟩
theorem mm_sub (h : S'.Sublist S) : ∀ a, a ∈ (mm S') → a ∈ (mm S) := fun a ha => (h.map (·.1)).subset ha
/-- the k-th owned object changes -/
theorem mm_set (S : Sto) (k : Nat) (p : Addr) (c d : D) (h : S[k]? = some (p, c)) : mm (S.set k (p, d)) = (mm S) := by
  show (S.set k (p, d)).map (·.1) = S.map (·.1)
  rw [List.map_set]
  apply List.ext_getElem?
  intro i
  by_cases hi : k = i
  · subst hi
    rw [List.getElem?_set, if_pos rfl, List.getElem?_map, h]
    simp
    exact (List.getElem?_eq_some_iff.mp h).1
  · rw [List.getElem?_set_ne hi]
theorem Ext.write {p : Addr} {o : HO} {c d : D} {k : Nat} (g : GoodS K T H S) (h : S[k]? = some (p, c)) : Ext (mm S) (mm (S.set k (p, d))) H (upd H p o) := by
  rw [mm_set S k p c d h]
  have hp : p ∈ (mm S) := List.mem_map.mpr ⟨_, List.mem_of_getElem? h, rfl⟩
  exact ⟨fun a u ha q => .inl (by rw [upd_ne (fun z => ha (by rw [z]; exact hp))]; exact q), fun a h n => absurd h n⟩
theorem GoodS.write {p : Addr} {o : HO} {c d : D} {k : Nat} (g : GoodS K T H S) (h : S[k]? = some (p, c)) (r : RepAt K (mm S) (upd H p o) p d) : GoodS K T (upd H p o) (S.set k (p, d)) := by
  have hM := mm_set S k p c d h
  have e := Ext.write (o := o) (d := d) g h
  rw [hM] at e
  obtain ⟨u, hu, ht, _⟩ := (g.own _ (List.mem_of_getElem? h)).some'
  refine ⟨fun q hq => ?_, by rw [hM]; exact g.nd, fun P hP => ?_⟩
  · rw [hM]
    obtain ⟨i, hi, e2⟩ := List.getElem_of_mem hq
    by_cases hk : k = i
    · subst hk
      rw [List.getElem_set_self] at e2
      rw [← e2]
      exact r
    · rw [List.getElem_set_ne hk] at e2
      have hi' : i < S.length := by rw [List.length_set] at hi; exact hi
      have hq' : S[i]? = some q := by rw [List.getElem?_eq_getElem hi', e2]
      have np : q.1 ≠ p := fun z => by
        have nd := g.nd
        have h1 : (mm S)[i]? = some p := by
          show (S.map (·.1))[i]? = _
          rw [List.getElem?_map, hq', ← z]; rfl
        have h2 : (mm S)[k]? = some p := by
          show (S.map (·.1))[k]? = _
          rw [List.getElem?_map, h]; rfl
        obtain ⟨a1, b1⟩ := List.getElem?_eq_some_iff.mp h1
        obtain ⟨a2, b2⟩ := List.getElem?_eq_some_iff.mp h2
        exact hk ((List.getElem_inj nd).mp (b2.trans b1.symm))
      exact (g.own q (List.mem_of_getElem? hq')).ext e fun o' ho => by rw [upd_ne np]; exact ho
  · obtain ⟨ps, h1, h2⟩ := g.tab P hP
    refine ⟨ps, ?_, h2⟩
    rw [upd_ne]
    · exact h1
    · intro z
      rw [z, hu] at h1
      exact ht ps (Option.some.inj h1)
end
end DL
set_option Elab.async false
set_option linter.all false
set_option maxRecDepth 100000
set_option maxHeartbeats 4000000
namespace DL
open PySem PySem.Spec PyProof.Rows L2
/-! ### readings by what the code does -/
structure wE (X : Cx) (e : Expr) (σ : L2.St) (H : Hp) (Q : VK) : Prop where run : ∀ pins s, Inv X pins σ H s → wpAny (model X.prog X.w) X.A (eval e X.env) (EP X pins σ Q) X.xe s
structure wT (X : Cx) (e : Expr) (σ : L2.St) (H : Hp) (Q : Bool → Hp → Prop) : Prop where run : ∀ pins s, Inv X pins σ H s → wpAny (model X.prog X.w) X.A (isTrue e X.env (eval e X.env)) (TP X pins σ Q) X.xe s
structure wW (X : Cx) (e : Expr) (σ : L2.St) (H : Hp) (Q : Bool → Hp → Prop) : Prop where run : ∀ whole pins s, Inv X pins σ H s → wpAny (model X.prog X.w) X.A (isTrue e X.env whole) (TP X pins σ Q) X.xe s
structure wA (X : Cx) (es : List Expr) (σ : L2.St) (H : Hp) (Q : List V → Hp → Prop) : Prop where run : ∀ pos pins s, Inv X pins σ H s → wpAny (model X.prog X.w) X.A (spliced (backTo pos (starEach es X.env))) (AP X pins σ Q) X.xe s
structure wS (X : Cx) (st : Stmt) (D : Ends) (σ : L2.St) (H : Hp) : Prop where run : ∀ pins s, Inv X pins σ H s → wpAny (model X.prog X.w) X.A (exec st X.env) (SP X pins D) X.xe s
structure wSs (X : Cx) (st : List Stmt) (D : Ends) (σ : L2.St) (H : Hp) : Prop where run : ∀ pins s, Inv X pins σ H s → wpAny (model X.prog X.w) X.A (execs st X.env) (SP X pins D) X.xe s
structure wG (X : Cx) (tg : Expr) (v : V) (σ : L2.St) (H : Hp) (Q : L2.St → Hp → Prop) : Prop where run : ∀ pins s u, Inv X pins σ H s → RelV v u → wpAny (model X.prog X.w) X.A (assign tg X.env u) (fun _ s' => ∃ σ' H', Inv X pins σ' H' s' ∧ Q σ' H') X.xe s
structure wI (X : Cx) (tg iter : Expr) (σ : L2.St) (H : Hp) (R : It → Hp → Prop) : Prop where run : ∀ pins s, Inv X pins σ H s → wpAny (model X.prog X.w) X.A (eval iter X.env) (fun v s1 => wpAny (model X.prog X.w) X.A (pyIter v) (PIE X pins σ tg R) X.xe s1) X.xe s
section
variable {X : Cx} {e : Expr} {es : List Expr} {st : Stmt} {sts : List Stmt} {σ : L2.St} {H : Hp}
theorem pe_w : PE X e (wE X e) := ⟨fun pins s _ _ _ I h => h.run pins s I⟩
theorem pt_w : PT X e (wT X e) := ⟨fun pins s _ _ _ I h => h.run pins s I⟩
theorem pw_w : PW X e (wW X e) := ⟨fun wh pins s _ _ _ I h => h.run wh pins s I⟩
theorem pa_w : PA X es (wA X es) := ⟨fun pos pins s _ _ _ I h => h.run pos pins s I⟩
theorem ps_w : PS X st (wS X st) := ⟨fun pins s _ _ _ I h => h.run pins s I⟩
theorem pss_w : PSs X sts (wSs X sts) := ⟨fun pins s _ _ _ I h => h.run pins s I⟩
theorem pg_w : PG X e (wG X e) := ⟨fun pins s _ _ _ u _ I r h => h.run pins s u I r⟩
theorem pi_w {tg : Expr} : PI X tg e (wI X tg e) := ⟨fun pins s _ _ _ I h => h.run pins s I⟩
theorem wE_of {t : TE} {Q : VK} (h : PE X e t) (q : t σ H Q) : wE X e σ H Q := ⟨fun pins s I => h.run pins s σ H Q I q⟩
theorem wT_of {t : TT} {Q : Bool → Hp → Prop} (h : PT X e t) (q : t σ H Q) : wT X e σ H Q := ⟨fun pins s I => h.run pins s σ H Q I q⟩
theorem wA_of {t : TA} {Q : List V → Hp → Prop} (h : PA X es t) (q : t σ H Q) : wA X es σ H Q := ⟨fun pos pins s I => h.run pos pins s σ H Q I q⟩
theorem wS_of {t : TS} {D : Ends} (h : PS X st t) (q : t D σ H) : wS X st D σ H := ⟨fun pins s I => h.run pins s σ H D I q⟩
theorem wSs_of {t : TS} {D : Ends} (h : PSs X sts t) (q : t D σ H) : wSs X sts D σ H := ⟨fun pins s I => h.run pins s σ H D I q⟩
theorem wG_of {t : TG} {v : V} {Q : L2.St → Hp → Prop} (h : PG X e t) (q : t v σ H Q) : wG X e v σ H Q := ⟨fun pins s u I r => h.run pins s σ H v u Q I r q⟩
theorem wI_of {tg : Expr} {t : TI} {R : It → Hp → Prop} (h : PI X tg e t) (q : t σ H R) : wI X tg e σ H R := ⟨fun pins s I => h.run pins s σ H R I q⟩
theorem wE_mono {Q Q' : VK} (h : wE X e σ H Q) (m : ∀ v H', Q v H' → Q' v H') : wE X e σ H Q' := ⟨fun pins s I => thn (h.run pins s I) fun _ _ ⟨v, H', I', r, q⟩ => ⟨v, H', I', r, m v H' q⟩⟩
theorem wT_mono {Q Q' : Bool → Hp → Prop} (h : wT X e σ H Q) (m : ∀ v H', Q v H' → Q' v H') : wT X e σ H Q' := ⟨fun pins s I => thn (h.run pins s I) fun _ _ ⟨H', I', q⟩ => ⟨H', I', m _ H' q⟩⟩
theorem wW_mono {Q Q' : Bool → Hp → Prop} (h : wW X e σ H Q) (m : ∀ v H', Q v H' → Q' v H') : wW X e σ H Q' := ⟨fun wh pins s I => thn (h.run wh pins s I) fun _ _ ⟨H', I', q⟩ => ⟨H', I', m _ H' q⟩⟩
theorem wA_mono {Q Q' : List V → Hp → Prop} (h : wA X es σ H Q) (m : ∀ v H', Q v H' → Q' v H') : wA X es σ H Q' := ⟨fun pos pins s I => thn (h.run pos pins s I) fun _ _ ⟨v, H', I', r, q⟩ => ⟨v, H', I', r, m v H' q⟩⟩
theorem SP_mono {pins : List (Addr × Obj)} {D D' : Ends} {f : Flow} {s : Shared} (h : SP X pins D f s) (h1 : ∀ σ H, D.nx σ H → D'.nx σ H) (h2 : ∀ v H, D.rt v H → D'.rt v H) (h3 : ∀ σ H, D.bk σ H → D'.bk σ H) (h4 : ∀ σ H, D.ct σ H → D'.ct σ H) : SP X pins D' f s := by
  cases f with
  | next => obtain ⟨σ', H', I, q⟩ := h; exact ⟨σ', H', I, h1 _ _ q⟩
  | brk => obtain ⟨σ', H', I, q⟩ := h; exact ⟨σ', H', I, h3 _ _ q⟩
  | cont => obtain ⟨σ', H', I, q⟩ := h; exact ⟨σ', H', I, h4 _ _ q⟩
  | ret u => obtain ⟨v, σ', H', I, r, q⟩ := h; exact ⟨v, σ', H', I, r, h2 _ _ q⟩
theorem wS_mono {D D' : Ends} (h : wS X st D σ H) (h1 : ∀ σ H, D.nx σ H → D'.nx σ H) (h2 : ∀ v H, D.rt v H → D'.rt v H) (h3 : ∀ σ H, D.bk σ H → D'.bk σ H) (h4 : ∀ σ H, D.ct σ H → D'.ct σ H) : wS X st D' σ H := ⟨fun pins s I => thn (h.run pins s I) fun _ _ q => SP_mono q h1 h2 h3 h4⟩
theorem wSs_mono {D D' : Ends} (h : wSs X sts D σ H) (h1 : ∀ σ H, D.nx σ H → D'.nx σ H) (h2 : ∀ v H, D.rt v H → D'.rt v H) (h3 : ∀ σ H, D.bk σ H → D'.bk σ H) (h4 : ∀ σ H, D.ct σ H → D'.ct σ H) : wSs X sts D' σ H := ⟨fun pins s I => thn (h.run pins s I) fun _ _ q => SP_mono q h1 h2 h3 h4⟩
theorem wG_mono {v : V} {Q Q' : L2.St → Hp → Prop} (h : wG X e v σ H Q) (m : ∀ σ H, Q σ H → Q' σ H) : wG X e v σ H Q' := ⟨fun pins s u I r => thn (h.run pins s u I r) fun _ _ ⟨σ', H', I', q⟩ => ⟨σ', H', I', m _ _ q⟩⟩
theorem wI_mono {tg : Expr} {R R' : It → Hp → Prop} (h : wI X tg e σ H R) (m : ∀ J H, R J H → R' J H) : wI X tg e σ H R' := ⟨fun pins s I => thn (h.run pins s I) fun _ _ h1 => thn h1 fun _ _ ⟨it, fp, tn, J, H', e1, I1, T1, t1, f1, q⟩ => ⟨it, fp, tn, J, H', e1, I1, T1, t1, f1, m _ _ q⟩⟩
end
/-! ### judgements over data -/
/-- T: the tables of code objects; R: what is known of the heap since some earlier states -/
structure Bk where
  R : Hp → Sto → Prop
  mono : ∀ H S H' S', R H S → Ext (mm S) (mm S') H H' → R H' S'
structure Bk.Le (B B' : Bk) : Prop where
  r : ∀ H S, B'.R H S → B.R H S
theorem Bk.Le.refl (B : Bk) : B.Le B := ⟨fun _ _ h => h⟩
theorem Bk.Le.trans {A B C : Bk} (h : A.Le B) (k : B.Le C) : A.Le C := ⟨fun H S q => h.r H S (k.r H S q)⟩
structure Gd (K : PySem.W.Frag) (T : List Addr) (B : Bk) (H : Hp) (S : Sto) : Prop where
  g : GoodS K T H S
  r : B.R H S
theorem Gd.to {K : PySem.W.Frag} {T : List Addr} {B : Bk} {H H1 : Hp} {S S1 : Sto} (a : Gd K T B H S) (e : Ext (mm S) (mm S1) H H1) (g : GoodS K T H1 S1) : Gd K T B H1 S1 := ⟨g, B.mono H S H1 S1 a.r e⟩
/-- what an expression comes to -/
def Pt (X : Cx) (T : List Addr) (B : Bk) (H : Hp) (S : Sto) (P : D → Sto → Prop) : VK := fun v H' => ∃ d S', P d S' ∧ Rep X.K (mm S') H' v d ∧ Gd X.K T B H' S' ∧ Ext (mm S) (mm S') H H'
def DE (X : Cx) (T : List Addr) (B : Bk) (e : Expr) (ρ : Rho) (S : Sto) (P : D → Sto → Prop) : Prop := ∀ σ H, Gd X.K T B H S → Slots X.K (mm S) H σ ρ → wE X e σ H (Pt X T B H S P)
/-- e is worth d and leaves S' -/
abbrev DX (X : Cx) (T : List Addr) (B : Bk) (e : Expr) (ρ : Rho) (S : Sto) (d : D) (S' : Sto) : Prop := DE X T B e ρ S fun d' S'' => d' = d ∧ S'' = S'
/-- e is a new list worth ds, that nothing else knows -/
abbrev DN (X : Cx) (T : List Addr) (B : Bk) (e : Expr) (ρ : Rho) (S : Sto) (ds : List D) (S' : Sto) : Prop := DE X T B e ρ S fun d S'' => ∃ l, d = .ref l ∧ S'' = S' ++ [(l, .lst ds)]
def DT (X : Cx) (T : List Addr) (B : Bk) (e : Expr) (ρ : Rho) (S : Sto) (b : Bool) (S' : Sto) : Prop := ∀ σ H, Gd X.K T B H S → Slots X.K (mm S) H σ ρ → wT X e σ H fun b' H' => b' = b ∧ Gd X.K T B H' S' ∧ Ext (mm S) (mm S') H H'
def DW (X : Cx) (T : List Addr) (B : Bk) (e : Expr) (ρ : Rho) (S : Sto) (b : Bool) (S' : Sto) : Prop := ∀ σ H, Gd X.K T B H S → Slots X.K (mm S) H σ ρ → wW X e σ H fun b' H' => b' = b ∧ Gd X.K T B H' S' ∧ Ext (mm S) (mm S') H H'
def DA (X : Cx) (T : List Addr) (B : Bk) (es : List Expr) (ρ : Rho) (S : Sto) (ds : List D) (S' : Sto) : Prop := ∀ σ H, Gd X.K T B H S → Slots X.K (mm S) H σ ρ → wA X es σ H fun vs H' => Reps X.K (mm S') H' vs ds ∧ Gd X.K T B H' S' ∧ Ext (mm S) (mm S') H H'
structure DEnds where
  nx : Rho → Sto → Prop
  rt : D → Sto → Prop
  bk : Rho → Sto → Prop := fun _ _ => False
  ct : Rho → Sto → Prop := fun _ _ => False
def ends (X : Cx) (T : List Addr) (B : Bk) (P : DEnds) : Ends where
  nx := fun σ H => ∃ ρ S, P.nx ρ S ∧ Gd X.K T B H S ∧ Slots X.K (mm S) H σ ρ
  rt := fun v H => ∃ d S, P.rt d S ∧ Gd X.K T B H S ∧ Rep X.K (mm S) H v d
  bk := fun σ H => ∃ ρ S, P.bk ρ S ∧ Gd X.K T B H S ∧ Slots X.K (mm S) H σ ρ
  ct := fun σ H => ∃ ρ S, P.ct ρ S ∧ Gd X.K T B H S ∧ Slots X.K (mm S) H σ ρ
def DS (X : Cx) (T : List Addr) (B : Bk) (st : Stmt) (ρ : Rho) (S : Sto) (P : DEnds) : Prop := ∀ σ H, Gd X.K T B H S → Slots X.K (mm S) H σ ρ → wS X st (ends X T B P) σ H
def DSs (X : Cx) (T : List Addr) (B : Bk) (st : List Stmt) (ρ : Rho) (S : Sto) (P : DEnds) : Prop := ∀ σ H, Gd X.K T B H S → Slots X.K (mm S) H σ ρ → wSs X st (ends X T B P) σ H
/-- a target takes x -/
def DG (X : Cx) (tg : Expr) (x : D) (ρ ρ' : Rho) (ix : List Nat) : Prop := ∀ M σ H v, Slots X.K M H σ ρ → Rep X.K M H v x → wG X tg v σ H fun σ' H' => H' = H ∧ Slots X.K M H σ' ρ' ∧ ∀ j : Nat, j ∉ ix → σ'[j]? = σ[j]?
/-- an iterator that hands out xs -/
def Yields (K : PySem.W.Frag) (T : List Addr) (xs : List D) (V : Sto → Prop) (M1 : List Addr) (H1 : Hp) (J : It) : Prop :=
  ∀ (i : Nat) (H2 : Hp) (S2 : Sto), V S2 → Ext M1 (mm S2) H1 H2 → GoodS K T H2 S2 →
    (i < xs.length → J.go i H2 ∧ ∀ x H3, J.yld i H2 x H3 → ∃ d, xs[i]? = some d ∧ Rep K (mm S2) H3 x d ∧ Ext (mm S2) (mm S2) H2 H3 ∧ GoodS K T H3 S2) ∧ (i = xs.length → J.stop i H2)
def DI (X : Cx) (T : List Addr) (B : Bk) (tg iter : Expr) (ρ : Rho) (S : Sto) (xs : List D) (V : Sto → Prop) (S' : Sto) : Prop :=
  ∀ σ H, Gd X.K T B H S → Slots X.K (mm S) H σ ρ → wI X tg iter σ H fun J H1 => Gd X.K T B H1 S' ∧ Ext (mm S) (mm S') H H1 ∧ Yields X.K T xs V (mm S') H1 J
section
variable {X : Cx} {T : List Addr} {B : Bk} {e a b c : Expr} {es : List Expr} {ρ ρ' : Rho} {S S1 S2 S3 S' : Sto} {d x y z : D} {P P' : D → Sto → Prop} {pos : Pos}
theorem DE.imp (h : DE X T B e ρ S P) (m : ∀ d S', P d S' → P' d S') : DE X T B e ρ S P' := fun σ H g s => wE_mono (h σ H g s) fun v H' ⟨d, S', p, r⟩ => ⟨d, S', m _ _ p, r⟩
/-- a value there already -/
theorem Pt.here {H : Hp} {v : V} (p : P d S) (g : Gd X.K T B H S) (r : Rep X.K (mm S) H v d) : Pt X T B H S P v H := ⟨d, S, p, r, g, Ext.refl _ _⟩
theorem Pt.after {H H1 : Hp} {v : V} {H' : Hp} (q : Pt X T B H1 S1 P v H') (e : Ext (mm S) (mm S1) H H1) : Pt X T B H S P v H' := by
  obtain ⟨d, S', p, r, g, e'⟩ := q
  exact ⟨d, S', p, r, g, e.trans e'⟩
/-- a list that was new is data -/
theorem DN.dx {ds : List D} (h : DN X T B e ρ S ds S') : DX X T B e ρ S (.lst ds) S' := fun σ H g s => wE_mono (h σ H g s) fun v H' ⟨d, S'', ⟨l, e1, e2⟩, r, g', ex⟩ => by
  subst e1; subst e2
  cases r
  have hm : (l, D.lst ds) ∈ S' ++ [(l, D.lst ds)] := List.mem_append_right _ List.mem_cons_self
  have sub : ∀ a, a ∈ mm S' → a ∈ mm (S' ++ [(l, D.lst ds)]) := fun a ha => by rw [mm_append]; exact List.mem_append_left _ ha
  have nl : l ∉ mm S' := fun z => by
    have nd := g'.g.nd
    rw [mm_append] at nd
    exact (List.nodup_append.mp nd).2.2 l z l (by show l ∈ [l]; simp) rfl
  have ra := (g'.g.own _ hm).less sub
  have ex' := ex.less sub
  exact ⟨.lst ds, S', ⟨rfl, rfl⟩, ra.froz nl, g.to ex' (g'.g.less (List.sublist_append_left _ _)), ex'⟩
theorem DX.cast {d' : D} {S'' : Sto} (h : DX X T B e ρ S d S') (e1 : d = d') (e2 : S' = S'') : DX X T B e ρ S d' S'' := by subst e1; subst e2; exact h
theorem dx_var (i : Nat) {x : Str} (h : ρ[i]? = some (some d)) (hN : X.N[i]? = some x := by rfl) (hv : Vis X.env.scope x := by first | exact Or.inl rfl | exact Or.inr (Or.inl rfl) | exact Or.inr (Or.inr rfl)) (hd : (x == ("__debug__" : Str)) = false := by decide)
    (hcd : (x == ("__classdict__" : Str)) = false := by decide) : DX X T B (.Name x pos) ρ S d S := fun σ H g s => by
  obtain ⟨v, q, r⟩ := s.at_ i d h
  exact wE_of (pe_var hN hv hd hcd) ⟨v, q, Pt.here ⟨rfl, rfl⟩ g r⟩
theorem dx_int {i : Int} {j : Nat} : DX X T B (.Constant (.int i) j pos) ρ S (.int i) S := fun σ H g s => wE_of pe_int (Pt.here ⟨rfl, rfl⟩ g (.int i))
theorem dx_bl {i : Bool} {j : Nat} : DX X T B (.Constant (.bool i) j pos) ρ S (.bl i) S := fun σ H g s => wE_of pe_bl (Pt.here ⟨rfl, rfl⟩ g (.bl i))
theorem dx_non {j : Nat} : DX X T B (.Constant .none j pos) ρ S .non S := fun σ H g s => wE_of pe_non (Pt.here ⟨rfl, rfl⟩ g .non)
theorem dx_str {i : Str} {j : Nat} : DX X T B (.Constant (.str i) j pos) ρ S (.str i) S := fun σ H g s => wE_of pe_str (Pt.here ⟨rfl, rfl⟩ g (.str i))
/-- a global of the module that is a def, a class or a constant of flat kind -/
theorem dx_glob {x : Str} {v : V} {u : Value} (hg : Gl X x) (hm : X.mg x = some u) (r : RelV v u) (rd : ∀ M H, Rep X.K M H v d) (hd : (x == ("__debug__" : Str)) = false := by decide) : DX X T B (.Name x pos) ρ S d S :=
  fun σ H g s => wE_of (pe_glob hg hm r hd) (Pt.here ⟨rfl, rfl⟩ g (rd _ _))
/-- a built-in class as a value -/
theorem dx_ty {x : Str} {n : String} (hg : Gl X x) (hm : X.mg x = none) (hv : bootBuiltins x = some (.type n)) (hn : x ≠ "__name__" := by decide) (hd : (x == ("__debug__" : Str)) = false := by decide) : DX X T B (.Name x pos) ρ S (.ty n) S :=
  fun σ H g s => wE_of (pe_bltn (v := .ty n) hg hm hv rfl hn hd) (Pt.here ⟨rfl, rfl⟩ g (.ty n))
/-! ### two-place operations by values -/
/-- r gives z of x and y -/
def OV (X : Cx) (T : List Addr) (B : Bk) (r : R2) (x y : D) (S : Sto) (z : D) (S' : Sto) : Prop := ∀ H vx vy, Gd X.K T B H S → Rep X.K (mm S) H vx x → Rep X.K (mm S) H vy y → r vx vy H (Pt X T B H S fun d' S'' => d' = z ∧ S'' = S')
theorem dx_bin2 {r : R2} {t : TE} {e : Expr} (hp : PE X e (tOp r (wE X a) (wE X b))) (ha : DX X T B a ρ S x S1) (hb : DX X T B b ρ S1 y S2) (hr : OV X T B r x y S2 z S3) (hm : ∀ x y H Q Q', (∀ v H', Q v H' → Q' v H') → r x y H Q → r x y H Q') : DX X T B e ρ S z S3 := by
  intro σ H g s
  refine wE_of hp (wE_mono (ha σ H g s) fun vx H1 ⟨d1, T1, ⟨e1, e2⟩, r1, g1, x1⟩ => ?_)
  subst e1; subst e2
  refine wE_mono (hb σ H1 g1 (s.ext x1)) fun vy H2 ⟨d2, T2, ⟨e3, e4⟩, r2, g2, x2⟩ => ?_
  subst e3; subst e4
  exact hm _ _ _ _ _ (fun v H' q => q.after (x1.trans x2)) (hr H2 vx vy g2 (r1.ext x2) r2)
theorem dx_op {op : Operator} {r : R2} (ho : OpR X (binaryOp op) r) (ha : DX X T B a ρ S x S1) (hb : DX X T B b ρ S1 y S2) (hr : OV X T B r x y S2 z S3)
    (hm : ∀ x y H Q Q', (∀ v H', Q v H' → Q' v H') → r x y H Q → r x y H Q') : DX X T B (.BinOp a op b pos) ρ S z S3 := dx_bin2 (t := wE X a) (pe_op ho pe_w pe_w) ha hb hr hm
theorem mono_I0 {g : Int → Int → V} : ∀ x y H (Q Q' : VK), (∀ v H', Q v H' → Q' v H') → rI0 g x y H Q → rI0 g x y H Q' := fun _ _ _ _ _ m ⟨i, j, e1, e2, q⟩ => ⟨i, j, e1, e2, m _ _ q⟩
theorem mono_I {C : Int → Int → Prop} {g : Int → Int → V} : ∀ x y H (Q Q' : VK), (∀ v H', Q v H' → Q' v H') → rI C g x y H Q → rI C g x y H Q' := fun _ _ _ _ _ m ⟨i, j, e1, e2, c, q⟩ => ⟨i, j, e1, e2, c, m _ _ q⟩
theorem ov_I0 {g : Int → Int → V} {i j : Int} {z : D} (h : ∀ M H, Rep X.K M H (g i j) z) : OV X T B (rI0 g) (.int i) (.int j) S z S := fun H vx vy gd r1 r2 => by
  cases r1; cases r2
  exact ⟨i, j, rfl, rfl, Pt.here ⟨rfl, rfl⟩ gd (h _ _)⟩
theorem ov_I {C : Int → Int → Prop} {g : Int → Int → V} {i j : Int} {z : D} (hc : C i j) (h : ∀ M H, Rep X.K M H (g i j) z) : OV X T B (rI C g) (.int i) (.int j) S z S := fun H vx vy gd r1 r2 => by
  cases r1; cases r2
  exact ⟨i, j, rfl, rfl, hc, Pt.here ⟨rfl, rfl⟩ gd (h _ _)⟩
variable {i j : Int}
theorem dx_add (ha : DX X T B a ρ S (.int i) S1) (hb : DX X T B b ρ S1 (.int j) S2) : DX X T B (.BinOp a .Add b pos) ρ S (.int (i + j)) S2 := dx_op op_add ha hb (ov_I0 fun _ _ => .int _) mono_I0
theorem dx_sub (ha : DX X T B a ρ S (.int i) S1) (hb : DX X T B b ρ S1 (.int j) S2) : DX X T B (.BinOp a .Sub b pos) ρ S (.int (i - j)) S2 := dx_op op_sub ha hb (ov_I0 fun _ _ => .int _) mono_I0
theorem dx_mul (ha : DX X T B a ρ S (.int i) S1) (hb : DX X T B b ρ S1 (.int j) S2) (h : CMul i j) : DX X T B (.BinOp a .Mult b pos) ρ S (.int (i * j)) S2 := dx_op op_mul ha hb (ov_I h fun _ _ => .int _) mono_I
theorem dx_fdiv (ha : DX X T B a ρ S (.int i) S1) (hb : DX X T B b ρ S1 (.int j) S2) (h : CDiv i j) : DX X T B (.BinOp a .FloorDiv b pos) ρ S (.int (i / j)) S2 := dx_op op_fdiv ha hb (ov_I h fun _ _ => .int _) mono_I
theorem dx_mod (ha : DX X T B a ρ S (.int i) S1) (hb : DX X T B b ρ S1 (.int j) S2) (h : 0 < j) : DX X T B (.BinOp a .Mod b pos) ρ S (.int (i % j)) S2 := dx_op op_mod ha hb (ov_I h fun _ _ => .int _) mono_I
theorem dx_shl (ha : DX X T B a ρ S (.int i) S1) (hb : DX X T B b ρ S1 (.int j) S2) (h : CPow i j) : DX X T B (.BinOp a .LShift b pos) ρ S (.int (i * 2 ^ j.toNat)) S2 := dx_op op_shl ha hb (ov_I h fun _ _ => .int _) mono_I
theorem dx_shr (ha : DX X T B a ρ S (.int i) S1) (hb : DX X T B b ρ S1 (.int j) S2) (h : 0 ≤ j) : DX X T B (.BinOp a .RShift b pos) ρ S (.int (i / 2 ^ j.toNat)) S2 := dx_op op_shr ha hb (ov_I h fun _ _ => .int _) mono_I
theorem dx_band (ha : DX X T B a ρ S (.int i) S1) (hb : DX X T B b ρ S1 (.int j) S2) : DX X T B (.BinOp a .BitAnd b pos) ρ S (.int (Builtin.bitAnd i j)) S2 := dx_op op_and ha hb (ov_I0 fun _ _ => .int _) mono_I0
theorem dx_bor (ha : DX X T B a ρ S (.int i) S1) (hb : DX X T B b ρ S1 (.int j) S2) : DX X T B (.BinOp a .BitOr b pos) ρ S (.int (Builtin.bitOr i j)) S2 := dx_op op_or ha hb (ov_I0 fun _ _ => .int _) mono_I0
def rCatS : R2 := fun x y H Q => ∃ i j, x = .str i ∧ y = .str j ∧ i.length + j.length ≤ sizeLine ∧ Q (.str (i ++ j)) H
theorem dx_addS {u w : Str} (ha : DX X T B a ρ S (.str u) S1) (hb : DX X T B b ρ S1 (.str w) S2) (h : u.length + w.length ≤ 100000) : DX X T B (.BinOp a .Add b pos) ρ S (.str (u ++ w)) S2 :=
  dx_op (r := rCatS) op_add_str ha hb (fun H vx vy gd r1 r2 => by cases r1; cases r2; exact ⟨u, w, rfl, rfl, Nat.le_trans h (by decide), Pt.here ⟨rfl, rfl⟩ gd (.str _)⟩) fun _ _ _ _ _ m ⟨i, j, e1, e2, c, q⟩ => ⟨i, j, e1, e2, c, m _ _ q⟩
theorem dx_neg (ha : DX X T B a ρ S (.int i) S1) : DX X T B (.UnaryOp .USub a pos) ρ S (.int (-i)) S1 := fun σ H g s => wE_of (pe_un un_neg pe_w) (wE_mono (ha σ H g s) fun v H1 ⟨d1, T1, ⟨e1, e2⟩, r1, g1, x1⟩ => by
  subst e1; subst e2; cases r1
  exact ⟨i, rfl, _, _, ⟨rfl, rfl⟩, .int _, g1, x1⟩)
theorem dx_inv (ha : DX X T B a ρ S (.int i) S1) : DX X T B (.UnaryOp .Invert a pos) ρ S (.int (Builtin.bitNot i)) S1 := fun σ H g s => wE_of (pe_un un_inv pe_w) (wE_mono (ha σ H g s) fun v H1 ⟨d1, T1, ⟨e1, e2⟩, r1, g1, x1⟩ => by
  subst e1; subst e2; cases r1
  exact ⟨i, rfl, _, _, ⟨rfl, rfl⟩, .int _, g1, x1⟩)
/-! ### comparisons -/
theorem dx_cmp {op : CmpOp} {r : R2} (ho : OpR X (compareOp op) r) (ha : DX X T B a ρ S x S1) (hb : DX X T B b ρ S1 y S2) (hr : OV X T B r x y S2 z S3)
    (hm : ∀ x y H Q Q', (∀ v H', Q v H' → Q' v H') → r x y H Q → r x y H Q') (hn : behindInMarks op b = false) : DX X T B (.Compare a [op] [b] pos) ρ S z S3 := dx_bin2 (t := wE X a) (pe_cmpR ho pe_w pe_w hn) ha hb hr hm
theorem dx_lt (ha : DX X T B a ρ S (.int i) S1) (hb : DX X T B b ρ S1 (.int j) S2) : DX X T B (.Compare a [.Lt] [b] pos) ρ S (.bl (decide (i < j))) S2 := dx_cmp op_lt ha hb (ov_I0 fun _ _ => .bl _) mono_I0 (nomark _)
theorem dx_le (ha : DX X T B a ρ S (.int i) S1) (hb : DX X T B b ρ S1 (.int j) S2) : DX X T B (.Compare a [.LtE] [b] pos) ρ S (.bl (decide (i ≤ j))) S2 := dx_cmp op_le ha hb (ov_I0 fun _ _ => .bl _) mono_I0 (nomark _)
theorem dx_gt (ha : DX X T B a ρ S (.int i) S1) (hb : DX X T B b ρ S1 (.int j) S2) : DX X T B (.Compare a [.Gt] [b] pos) ρ S (.bl (decide (j < i))) S2 := dx_cmp op_gt ha hb (ov_I0 fun _ _ => .bl _) mono_I0 (nomark _)
theorem dx_ge (ha : DX X T B a ρ S (.int i) S1) (hb : DX X T B b ρ S1 (.int j) S2) : DX X T B (.Compare a [.GtE] [b] pos) ρ S (.bl (decide (j ≤ i))) S2 := dx_cmp op_ge ha hb (ov_I0 fun _ _ => .bl _) mono_I0 (nomark _)
/-- flat data as a bare value -/
def D.flat : D → Option V
  | .non => some .non | .bl b => some (.bl b) | .int i => some (.int i) | .str x => some (.str x)
  | _ => none
theorem Rep.flat {K : PySem.W.Frag} {M : List Addr} {H : Hp} {v w : V} {d : D} (r : Rep K M H v d) (f : d.flat = some w) : v = w := by
  cases r <;> first | (cases f; rfl) | cases f
theorem mono_eq : ∀ x y H (Q Q' : VK), (∀ v H', Q v H' → Q' v H') → rEq x y H Q → rEq x y H Q' := fun _ _ _ _ _ m ⟨h, q⟩ => ⟨h, m _ _ q⟩
theorem mono_ne : ∀ x y H (Q Q' : VK), (∀ v H', Q v H' → Q' v H') → rNe x y H Q → rNe x y H Q' := fun _ _ _ _ _ m ⟨h, q⟩ => ⟨h, m _ _ q⟩
theorem ov_eq {vx vy : V} {k : Bool} (f1 : x.flat = some vx) (f2 : y.flat = some vy) (hs : scal vx vy = true) (hk : decide (vx = vy) = k) : OV X T B rEq x y S (.bl k) S := fun H wx wy gd r1 r2 => by
  rw [r1.flat f1, r2.flat f2]
  exact ⟨hs, Pt.here ⟨rfl, rfl⟩ gd (by rw [hk]; exact .bl _)⟩
theorem ov_ne {vx vy : V} {k : Bool} (f1 : x.flat = some vx) (f2 : y.flat = some vy) (hs : scal vx vy = true) (hk : (!decide (vx = vy)) = k) : OV X T B rNe x y S (.bl k) S := fun H wx wy gd r1 r2 => by
  rw [r1.flat f1, r2.flat f2]
  exact ⟨hs, Pt.here ⟨rfl, rfl⟩ gd (by rw [hk]; exact .bl _)⟩
theorem dec_intD (i j : Int) : decide (V.int i = V.int j) = decide (i = j) := by
  by_cases h : i = j
  · rw [decide_eq_true h, decide_eq_true (by rw [h])]
  · rw [decide_eq_false h, decide_eq_false (fun q => h (V.int.inj q))]
theorem dec_strD (i j : Str) : decide (V.str i = V.str j) = decide (i = j) := by
  by_cases h : i = j
  · rw [decide_eq_true h, decide_eq_true (by rw [h])]
  · rw [decide_eq_false h, decide_eq_false (fun q => h (V.str.inj q))]
theorem dec_blD (i j : Bool) : decide (V.bl i = V.bl j) = decide (i = j) := by
  by_cases h : i = j
  · rw [decide_eq_true h, decide_eq_true (by rw [h])]
  · rw [decide_eq_false h, decide_eq_false (fun q => h (V.bl.inj q))]
theorem dx_eqI (ha : DX X T B a ρ S (.int i) S1) (hb : DX X T B b ρ S1 (.int j) S2) : DX X T B (.Compare a [.Eq] [b] pos) ρ S (.bl (decide (i = j))) S2 := dx_cmp op_eq ha hb (ov_eq rfl rfl rfl (dec_intD i j)) mono_eq (nomark _)
theorem dx_neI (ha : DX X T B a ρ S (.int i) S1) (hb : DX X T B b ρ S1 (.int j) S2) : DX X T B (.Compare a [.NotEq] [b] pos) ρ S (.bl (!decide (i = j))) S2 := dx_cmp op_ne ha hb (ov_ne rfl rfl rfl (by rw [dec_intD])) mono_ne (nomark _)
theorem dx_eqS {u w : Str} (ha : DX X T B a ρ S (.str u) S1) (hb : DX X T B b ρ S1 (.str w) S2) : DX X T B (.Compare a [.Eq] [b] pos) ρ S (.bl (decide (u = w))) S2 := dx_cmp op_eq ha hb (ov_eq rfl rfl rfl (dec_strD u w)) mono_eq (nomark _)
theorem dx_neS {u w : Str} (ha : DX X T B a ρ S (.str u) S1) (hb : DX X T B b ρ S1 (.str w) S2) : DX X T B (.Compare a [.NotEq] [b] pos) ρ S (.bl (!decide (u = w))) S2 := dx_cmp op_ne ha hb (ov_ne rfl rfl rfl (by rw [dec_strD])) mono_ne (nomark _)
theorem dx_eqB {u w : Bool} (ha : DX X T B a ρ S (.bl u) S1) (hb : DX X T B b ρ S1 (.bl w) S2) : DX X T B (.Compare a [.Eq] [b] pos) ρ S (.bl (decide (u = w))) S2 := dx_cmp op_eq ha hb (ov_eq rfl rfl rfl (dec_blD u w)) mono_eq (nomark _)
theorem dx_neB {u w : Bool} (ha : DX X T B a ρ S (.bl u) S1) (hb : DX X T B b ρ S1 (.bl w) S2) : DX X T B (.Compare a [.NotEq] [b] pos) ρ S (.bl (!decide (u = w))) S2 := dx_cmp op_ne ha hb (ov_ne rfl rfl rfl (by rw [dec_blD])) mono_ne (nomark _)
/-- c in s, c one sign; in general -/
theorem dx_inS {u w : Str} (ha : DX X T B a ρ S (.str u) S1) (hb : DX X T B b ρ S1 (.str w) S2) (hn : behindInMarks .In b = false := by rfl) : DX X T B (.Compare a [.In] [b] pos) ρ S (.bl (!(Builtin.Str.occurrences w u 0 w.length 1).isEmpty)) S2 :=
  dx_cmp op_in_str ha hb (fun H vx vy gd r1 r2 => by cases r1; cases r2; exact ⟨u, w, rfl, rfl, Pt.here ⟨rfl, rfl⟩ gd (.bl _)⟩) (fun _ _ _ _ _ m ⟨i, j, e1, e2, q⟩ => ⟨i, j, e1, e2, m _ _ q⟩) hn
theorem dx_in1 {u : Nat} {w : Str} (ha : DX X T B a ρ S (.str ⟨#[u]⟩) S1) (hb : DX X T B b ρ S1 (.str w) S2) (hn : behindInMarks .In b = false := by rfl) : DX X T B (.Compare a [.In] [b] pos) ρ S (.bl (decide (u ∈ w.cps.toList))) S2 :=
  dx_cmp op_in_sign ha hb (fun H vx vy gd r1 r2 => by cases r1; cases r2; exact ⟨u, w, rfl, rfl, Pt.here ⟨rfl, rfl⟩ gd (.bl _)⟩) (fun _ _ _ _ _ m ⟨i, j, e1, e2, q⟩ => ⟨i, j, e1, e2, m _ _ q⟩) hn
/-- two comparisons in a chain of ints: a <= b <= c -/
theorem dx_leLe {k : Int} (ha : DX X T B a ρ S (.int i) S1) (hb : DX X T B b ρ S1 (.int j) S2) (hc : i ≤ j → DX X T B c ρ S2 (.int k) S2)
    (hm1 : lastMarks [CmpOp.LtE, CmpOp.LtE] [b, c] = false := by rfl) : DX X T B (.Compare a [.LtE, .LtE] [b, c] pos) ρ S (.bl (decide (i ≤ j) && decide (j ≤ k))) S2 := fun σ H g s => by
  refine wE_of (pe_chain op_le op_le pe_w pe_w pe_w hm1) (wE_mono (ha σ H g s) fun v1 H1 ⟨d1, T1, ⟨e1, e2⟩, r1, g1, x1⟩ => ?_)
  subst e1; subst e2; cases r1
  refine wE_mono (hb σ H1 g1 (s.ext x1)) fun v2 H2 ⟨d2, T2, ⟨e1, e2⟩, r2, g2, x2⟩ => ?_
  subst e1; subst e2; cases r2
  refine ⟨i, j, rfl, rfl, decide (i ≤ j), rfl, ?_⟩
  by_cases h : i ≤ j
  · rw [decide_eq_true h, if_pos rfl, Bool.true_and]
    refine wE_mono (hc h σ H2 g2 (s.ext (x1.trans x2))) fun v3 H3 ⟨d3, T3, ⟨e1, e2⟩, r3, g3, x3⟩ => ?_
    subst e1; subst e2; cases r3
    exact ⟨j, k, rfl, rfl, _, _, ⟨rfl, rfl⟩, .bl _, g3, (x1.trans x2).trans x3⟩
  · rw [decide_eq_false h, if_neg Bool.false_ne_true, Bool.false_and]
    exact ⟨_, _, ⟨rfl, rfl⟩, .bl _, g2, x1.trans x2⟩
/-! ### tests, and, or, not, if -/
theorem dt_of {k : Bool} (h : DX X T B e ρ S (.bl k) S') (he : ∀ whole, isTrue e X.env whole = (do let v ← whole; standAt e.pos; holding [v] (truthy v)) := by intro _; rfl) : DT X T B e ρ S k S' := fun σ H g s =>
  wT_of (pt_val pe_w he) (wE_mono (h σ H g s) fun v H1 ⟨d1, T1, ⟨e1, e2⟩, r1, g1, x1⟩ => by subst e1; subst e2; cases r1; exact ⟨k, rfl, rfl, g1, x1⟩)
/-- a comparison as a test -/
theorem dt_cmp {op : CmpOp} {r : R2} {k : Bool} (ho : OpR X (compareOp op) r) (ha : DX X T B a ρ S x S1) (hb : DX X T B b ρ S1 y S2) (hr : OV X T B r x y S2 (.bl k) S3)
    (hm : ∀ x y H Q Q', (∀ v H', Q v H' → Q' v H') → r x y H Q → r x y H Q') (hn : behindInMarks op b = false) : DT X T B (.Compare a [op] [b] pos) ρ S k S3 := by
  intro σ H g s
  refine wT_of (pt_cmpR ho pe_w pe_w hn) (wE_mono (ha σ H g s) fun vx H1 ⟨d1, T1, ⟨e1, e2⟩, r1, g1, x1⟩ => ?_)
  subst e1; subst e2
  refine wE_mono (hb σ H1 g1 (s.ext x1)) fun vy H2 ⟨d2, T2, ⟨e3, e4⟩, r2, g2, x2⟩ => ?_
  subst e3; subst e4
  refine hm _ _ _ _ _ (fun v H' q => ?_) (hr H2 vx vy g2 (r1.ext x2) r2)
  obtain ⟨d, S', ⟨e5, e6⟩, r3, g3, x3⟩ := q
  subst e5; subst e6; cases r3
  exact ⟨k, rfl, rfl, g3, (x1.trans x2).trans x3⟩
theorem DT.cast {k k' : Bool} (h : DT X T B e ρ S k S') (q : k = k') : DT X T B e ρ S k' S' := q ▸ h
theorem dt_lt (ha : DX X T B a ρ S (.int i) S1) (hb : DX X T B b ρ S1 (.int j) S2) : DT X T B (.Compare a [.Lt] [b] pos) ρ S (decide (i < j)) S2 := dt_cmp op_lt ha hb (ov_I0 fun _ _ => .bl _) mono_I0 (nomark _)
theorem dt_le (ha : DX X T B a ρ S (.int i) S1) (hb : DX X T B b ρ S1 (.int j) S2) : DT X T B (.Compare a [.LtE] [b] pos) ρ S (decide (i ≤ j)) S2 := dt_cmp op_le ha hb (ov_I0 fun _ _ => .bl _) mono_I0 (nomark _)
theorem dt_gt (ha : DX X T B a ρ S (.int i) S1) (hb : DX X T B b ρ S1 (.int j) S2) : DT X T B (.Compare a [.Gt] [b] pos) ρ S (decide (j < i)) S2 := dt_cmp op_gt ha hb (ov_I0 fun _ _ => .bl _) mono_I0 (nomark _)
theorem dt_ge (ha : DX X T B a ρ S (.int i) S1) (hb : DX X T B b ρ S1 (.int j) S2) : DT X T B (.Compare a [.GtE] [b] pos) ρ S (decide (j ≤ i)) S2 := dt_cmp op_ge ha hb (ov_I0 fun _ _ => .bl _) mono_I0 (nomark _)
theorem dt_eqI (ha : DX X T B a ρ S (.int i) S1) (hb : DX X T B b ρ S1 (.int j) S2) : DT X T B (.Compare a [.Eq] [b] pos) ρ S (decide (i = j)) S2 := dt_cmp op_eq ha hb (ov_eq rfl rfl rfl (dec_intD i j)) mono_eq (nomark _)
theorem dt_neI (ha : DX X T B a ρ S (.int i) S1) (hb : DX X T B b ρ S1 (.int j) S2) : DT X T B (.Compare a [.NotEq] [b] pos) ρ S (!decide (i = j)) S2 := dt_cmp op_ne ha hb (ov_ne rfl rfl rfl (by rw [dec_intD])) mono_ne (nomark _)
theorem dt_eqS {u w : Str} (ha : DX X T B a ρ S (.str u) S1) (hb : DX X T B b ρ S1 (.str w) S2) : DT X T B (.Compare a [.Eq] [b] pos) ρ S (decide (u = w)) S2 := dt_cmp op_eq ha hb (ov_eq rfl rfl rfl (dec_strD u w)) mono_eq (nomark _)
theorem dt_neS {u w : Str} (ha : DX X T B a ρ S (.str u) S1) (hb : DX X T B b ρ S1 (.str w) S2) : DT X T B (.Compare a [.NotEq] [b] pos) ρ S (!decide (u = w)) S2 := dt_cmp op_ne ha hb (ov_ne rfl rfl rfl (by rw [dec_strD])) mono_ne (nomark _)
theorem dt_eqB {u w : Bool} (ha : DX X T B a ρ S (.bl u) S1) (hb : DX X T B b ρ S1 (.bl w) S2) : DT X T B (.Compare a [.Eq] [b] pos) ρ S (decide (u = w)) S2 := dt_cmp op_eq ha hb (ov_eq rfl rfl rfl (dec_blD u w)) mono_eq (nomark _)
theorem dt_neB {u w : Bool} (ha : DX X T B a ρ S (.bl u) S1) (hb : DX X T B b ρ S1 (.bl w) S2) : DT X T B (.Compare a [.NotEq] [b] pos) ρ S (!decide (u = w)) S2 := dt_cmp op_ne ha hb (ov_ne rfl rfl rfl (by rw [dec_blD])) mono_ne (nomark _)
theorem dt_in1 {u : Nat} {w : Str} (ha : DX X T B a ρ S (.str ⟨#[u]⟩) S1) (hb : DX X T B b ρ S1 (.str w) S2) (hn : behindInMarks .In b = false := by rfl) : DT X T B (.Compare a [.In] [b] pos) ρ S (decide (u ∈ w.cps.toList)) S2 :=
  dt_cmp op_in_sign ha hb (fun H vx vy gd r1 r2 => by cases r1; cases r2; exact ⟨u, w, rfl, rfl, Pt.here ⟨rfl, rfl⟩ gd (.bl _)⟩) (fun _ _ _ _ _ m ⟨i, j, e1, e2, q⟩ => ⟨i, j, e1, e2, m _ _ q⟩) hn
theorem dt_not {k : Bool} (h : DT X T B a ρ S k S') : DT X T B (.UnaryOp .Not a pos) ρ S (!k) S' := fun σ H g s => wT_of (pt_not pt_w) (wT_mono (h σ H g s) fun b H1 ⟨e1, q⟩ => by subst e1; exact ⟨rfl, q⟩)
theorem DW.dt {k : Bool} (h : DW X T B e ρ S k S') : DT X T B e ρ S k S' := fun σ H g s => ⟨fun pins st I => (h σ H g s).run _ pins st I⟩
variable {rest : List Expr} {k m : Bool}
theorem dw_and1 (h : DT X T B a ρ S k S') : DW X T B (.BoolOp .And [a] pos) ρ S k S' := fun σ H g s => ⟨fun wh pins st I => (pw_and1 pt_w).run wh pins st σ H _ I (h σ H g s)⟩
theorem dw_or1 (h : DT X T B a ρ S k S') : DW X T B (.BoolOp .Or [a] pos) ρ S k S' := fun σ H g s => ⟨fun wh pins st I => (pw_or1 pt_w).run wh pins st σ H _ I (h σ H g s)⟩
/-- and: the rest where the first holds; the store behind is told by cases -/
theorem dw_and (h : DT X T B a ρ S k S1) (hr : k = true → DW X T B (.BoolOp .And (b :: rest) pos) ρ S1 m S') (h0 : k = false → S' = S1) : DW X T B (.BoolOp .And (a :: b :: rest) pos) ρ S (k && m) S' := fun σ H g s => wW.mk fun wh pins st I =>
  (pw_and pt_w pw_w).run wh pins st σ H _ I (wT_mono (h σ H g s) fun c H1 ⟨e1, g1, x1⟩ => by
    subst e1
    cases c with
    | true =>
      rw [if_pos rfl]
      exact wW_mono (hr rfl σ H1 g1 (s.ext x1)) fun b H2 ⟨e2, g2, x2⟩ => ⟨by rw [e2]; rfl, g2, x1.trans x2⟩
    | false =>
      rw [if_neg Bool.false_ne_true, h0 rfl]
      exact ⟨rfl, g1, x1⟩)
theorem dw_or (h : DT X T B a ρ S k S1) (hr : k = false → DW X T B (.BoolOp .Or (b :: rest) pos) ρ S1 m S') (h0 : k = true → S' = S1) : DW X T B (.BoolOp .Or (a :: b :: rest) pos) ρ S (k || m) S' := fun σ H g s => wW.mk fun wh pins st I =>
  (pw_or pt_w pw_w).run wh pins st σ H _ I (wT_mono (h σ H g s) fun c H1 ⟨e1, g1, x1⟩ => by
    subst e1
    cases c with
    | true =>
      rw [if_pos rfl, h0 rfl]
      exact ⟨rfl, g1, x1⟩
    | false =>
      rw [if_neg Bool.false_ne_true]
      exact wW_mono (hr rfl σ H1 g1 (s.ext x1)) fun b H2 ⟨e2, g2, x2⟩ => ⟨by rw [e2]; rfl, g2, x1.trans x2⟩)
/-- .. as values -/
theorem dx_one {op : BoolOp} (h : DX X T B a ρ S d S') : DX X T B (.BoolOp op [a] pos) ρ S d S' := fun σ H g s => wE_of (pe_one pe_w) (h σ H g s)
theorem dx_and (h : DX X T B a ρ S (.bl k) S1) (hr : k = true → DX X T B (.BoolOp .And (b :: rest) pos) ρ S1 (.bl m) S') (h0 : k = false → S' = S1) : DX X T B (.BoolOp .And (a :: b :: rest) pos) ρ S (.bl (k && m)) S' := fun σ H g s =>
  wE_of (pe_and pe_w pe_w) (wE_mono (h σ H g s) fun v H1 ⟨d1, T1, ⟨e1, e2⟩, r1, g1, x1⟩ => by
    subst e1; subst e2; cases r1
    refine ⟨k, rfl, ?_⟩
    cases k with
    | true =>
      rw [if_pos rfl]
      exact wE_mono (hr rfl σ H1 g1 (s.ext x1)) fun v H2 q => q.after x1
    | false =>
      rw [if_neg Bool.false_ne_true, h0 rfl]
      exact ⟨_, _, ⟨rfl, rfl⟩, .bl _, g1, x1⟩)
theorem dx_or (h : DX X T B a ρ S (.bl k) S1) (hr : k = false → DX X T B (.BoolOp .Or (b :: rest) pos) ρ S1 (.bl m) S') (h0 : k = true → S' = S1) : DX X T B (.BoolOp .Or (a :: b :: rest) pos) ρ S (.bl (k || m)) S' := fun σ H g s =>
  wE_of (pe_or pe_w pe_w) (wE_mono (h σ H g s) fun v H1 ⟨d1, T1, ⟨e1, e2⟩, r1, g1, x1⟩ => by
    subst e1; subst e2; cases r1
    refine ⟨k, rfl, ?_⟩
    cases k with
    | true =>
      rw [if_pos rfl, h0 rfl]
      exact ⟨_, _, ⟨rfl, rfl⟩, .bl _, g1, x1⟩
    | false =>
      rw [if_neg Bool.false_ne_true]
      exact wE_mono (hr rfl σ H1 g1 (s.ext x1)) fun v H2 q => q.after x1)
theorem dx_not (h : DX X T B a ρ S (.bl k) S') : DX X T B (.UnaryOp .Not a pos) ρ S (.bl (!k)) S' := fun σ H g s =>
  wE_of (pe_not pe_w) (wE_mono (h σ H g s) fun v H1 ⟨d1, T1, ⟨e1, e2⟩, r1, g1, x1⟩ => by subst e1; subst e2; cases r1; exact ⟨k, rfl, _, _, ⟨rfl, rfl⟩, .bl _, g1, x1⟩)
theorem de_if (h : DT X T B c ρ S k S1) (h1 : k = true → DE X T B a ρ S1 P) (h2 : k = false → DE X T B b ρ S1 P) : DE X T B (.IfExp c a b pos) ρ S P := fun σ H g s =>
  wE_of (pe_ifExp pt_w pe_w pe_w) (wT_mono (h σ H g s) fun q H1 ⟨e1, g1, x1⟩ => by
    subst e1
    cases q with
    | true => rw [if_pos rfl]; exact wE_mono (h1 rfl σ H1 g1 (s.ext x1)) fun v H2 q => q.after x1
    | false => rw [if_neg Bool.false_ne_true]; exact wE_mono (h2 rfl σ H1 g1 (s.ext x1)) fun v H2 q => q.after x1)
theorem dx_isN (h : DX X T B a ρ S d S') (hn : ∀ M H v, Rep X.K M H v d → decide (v = .non) = k) {j : Nat} {pos' : Pos} : DX X T B (.Compare a [.Is] [.Constant .none j pos'] pos) ρ S (.bl k) S' := fun σ H g s =>
  wE_of (pe_cmp (pc_isN pe_w) rfl) (wE_mono (h σ H g s) fun v H1 ⟨d1, T1, ⟨e1, e2⟩, r1, g1, x1⟩ => by subst e1; subst e2; exact ⟨_, _, ⟨rfl, rfl⟩, by rw [hn _ _ _ r1]; exact .bl _, g1, x1⟩)
/-! ### argument lists, displays -/
theorem da_nil : DA X T B [] ρ S [] S := fun σ H g s => wA_of pa_nil ⟨.nil, g, Ext.refl _ _⟩
theorem da_cons {ds : List D} (ha : DX X T B a ρ S d S1) (hr : DA X T B es ρ S1 ds S2) (hs : starEach (a :: es) X.env = (false, eval a X.env) :: starEach es X.env := by rfl) : DA X T B (a :: es) ρ S (d :: ds) S2 := fun σ H g s =>
  wA_of (pa_cons pe_w pa_w hs) (wE_mono (ha σ H g s) fun v H1 ⟨d1, T1, ⟨e1, e2⟩, r1, g1, x1⟩ => by
    subst e1; subst e2
    exact wA_mono (hr σ H1 g1 (s.ext x1)) fun vs H2 ⟨r2, g2, x2⟩ => ⟨.cons (r1.ext x2) r2, g2, x1.trans x2⟩)
theorem dx_tup {ds : List D} {x1 : Nat} (h : DA X T B es ρ S ds S') (hl : ds.length ≤ 100000) : DX X T B (.Tuple es x1 pos) ρ S (.tup ds) S' := fun σ H g s =>
  wE_of (pe_tup pa_w) (wA_mono (h σ H g s) fun vs H1 ⟨r1, g1, x1⟩ => ⟨by rw [r1.length]; exact Nat.le_trans hl (by decide), fun p hp => by
    have x2 : Ext (mm S') (mm S') H1 (upd H1 p (.tup vs)) := Ext.new1 hp
    have np : p ∉ mm S' := fun z => by
      obtain ⟨o, h, _⟩ := g1.g.memM z
      rw [hp] at h; cases h
    exact ⟨_, _, ⟨rfl, rfl⟩, .tup np (.inl upd_same) (r1.ext x2), g1.to x2 (g1.g.new1 hp), x1.trans x2⟩⟩)
/-- where a list is laid anew -/
theorem Pt.newL {H1 H : Hp} {vs : List V} {ds : List D} {p : Addr} (r1 : Reps X.K (mm S') H1 vs ds) (g1 : Gd X.K T B H1 S') (x1 : Ext (mm S) (mm S') H H1) (hp : H1 p = none) :
    Pt X T B H S (fun d S'' => ∃ l, d = .ref l ∧ S'' = S' ++ [(l, .lst ds)]) (.ref p) (upd H1 p (.lst vs)) := by
  have x2 : Ext (mm S') (mm S' ++ [p]) H1 (upd H1 p (.lst vs)) := Ext.newO hp
  have g2 : GoodS X.K T (upd H1 p (.lst vs)) (S' ++ [(p, .lst ds)]) := g1.g.newO hp ⟨vs, upd_same, r1.ext x2⟩
  have x2' : Ext (mm S') (mm (S' ++ [(p, .lst ds)])) H1 (upd H1 p (.lst vs)) := by rw [mm_append]; exact x2
  exact ⟨_, _, ⟨p, rfl, rfl⟩, .ref p, g1.to x2' g2, x1.trans x2'⟩
theorem dn_lst {ds : List D} (h : DA X T B es ρ S ds S') (hl : ds.length ≤ 100000) : DN X T B (.List es pos) ρ S ds S' := fun σ H g s =>
  wE_of (pe_lst pa_w) (wA_mono (h σ H g s) fun vs H1 ⟨r1, g1, x1⟩ => ⟨by rw [r1.length]; exact Nat.le_trans hl (by decide), fun p hp => Pt.newL r1 g1 x1 hp⟩)
end
end DL
set_option Elab.async false
set_option linter.all false
set_option maxRecDepth 100000
set_option maxHeartbeats 4000000
namespace DL
open PySem PySem.Spec PyProof.Rows L2
section
variable {X : Cx} {T : List Addr} {B : Bk} {e a b c tg : Expr} {es : List Expr} {st : Stmt} {sts sts' : List Stmt} {ρ ρ' : Rho} {S S1 S2 S3 S' : Sto} {d x y z : D} {P P' : DEnds} {Q : D → Sto → Prop} {pos pos' : Pos}
theorem DSs.imp (h : DSs X T B sts ρ S P) (h1 : ∀ ρ S, P.nx ρ S → P'.nx ρ S) (h2 : ∀ d S, P.rt d S → P'.rt d S) (h3 : ∀ ρ S, P.bk ρ S → P'.bk ρ S) (h4 : ∀ ρ S, P.ct ρ S → P'.ct ρ S) : DSs X T B sts ρ S P' := fun σ H g s =>
  wSs_mono (h σ H g s) (fun _ _ ⟨ρ, S, p, q⟩ => ⟨ρ, S, h1 _ _ p, q⟩) (fun _ _ ⟨d, S, p, q⟩ => ⟨d, S, h2 _ _ p, q⟩) (fun _ _ ⟨ρ, S, p, q⟩ => ⟨ρ, S, h3 _ _ p, q⟩) fun _ _ ⟨ρ, S, p, q⟩ => ⟨ρ, S, h4 _ _ p, q⟩
theorem dss_nil (h : P.nx ρ S) : DSs X T B [] ρ S P := fun σ H g s => wSs_of pss_nil ⟨ρ, S, h, g, s⟩
theorem dss_one (h : DS X T B st ρ S P) : DSs X T B [st] ρ S P := fun σ H g s => wSs_of (pss_one ps_w) (h σ H g s)
theorem dss_cons (h : DS X T B st ρ S { P with nx := fun ρ' S' => DSs X T B sts ρ' S' P }) : DSs X T B (st :: sts) ρ S P := fun σ H g s =>
  wSs_of (pss_cons ps_w pss_w) (wS_mono (h σ H g s) (fun σ' H' ⟨ρ', S', p, g', s'⟩ => p σ' H' g' s') (fun _ _ q => q) (fun _ _ q => q) fun _ _ q => q)
/-- the code has been gone to a known place: what was known of slots and store is said in other words -/
structure Cv (ρ : Rho) (S : Sto) (ρ' : Rho) (S' : Sto) : Prop where
  g : ∀ K T H, GoodS K T H S → GoodS K T H S'
  s : ∀ K T H σ, GoodS K T H S → Slots K (mm S) H σ ρ → Slots K (mm S') H σ ρ'
  m : ∀ a, a ∈ mm S' → a ∈ mm S
theorem Cv.gd (h : Cv ρ S ρ' S') {K : PySem.W.Frag} {H : Hp} (g : Gd K T B H S) : Gd K T B H S' := ⟨h.g _ _ _ g.g, B.mono _ _ _ _ g.r ⟨fun _ _ _ q => .inl q, fun a ha n => absurd (h.m a ha) n⟩⟩
theorem dss_cv (h : Cv ρ S ρ' S') (k : DSs X T B sts ρ' S' P) : DSs X T B sts ρ S P := fun σ H g s => k σ H (h.gd g) (h.s _ _ _ _ g.g s)
theorem Cv.sub (h : S'.Sublist S) : Cv ρ S ρ S' := ⟨fun _ _ _ g => g.less h, fun _ _ _ _ _ s => s.less (mm_sub h), mm_sub h⟩
/-- the slot i holds the owned object that stands last: from now on it is data -/
theorem Cv.froz {l : Addr} {i : Nat} (h : ρ[i]? = some (some (.ref l))) : Cv ρ (S ++ [(l, d)]) (ρ.set i (some d)) S := by
  have sub : S.Sublist (S ++ [(l, d)]) := List.sublist_append_left _ _
  refine ⟨fun _ _ _ g => g.less sub, fun K T H σ g s => ?_, mm_sub sub⟩
  have hm : (l, d) ∈ S ++ [(l, d)] := List.mem_append_right _ List.mem_cons_self
  have nl : l ∉ mm S := fun z => by
    have nd := g.nd
    rw [mm_append] at nd
    exact (List.nodup_append.mp nd).2.2 l z l (by show l ∈ [l]; simp) rfl
  have ra := ((g.own _ hm).less (mm_sub sub)).froz nl
  obtain ⟨v, q, r⟩ := s.at_ i _ h
  cases r
  have s2 := (s.less (mm_sub sub)).set ra i
  have e : σ.set i (some (.ref l)) = σ := by
    apply List.ext_getElem?
    intro j
    by_cases hj : i = j
    · subst hj
      rw [q]
      have := (List.getElem?_eq_some_iff.mp q).1
      rw [List.getElem?_set_self this]
    · rw [List.getElem?_set_ne hj]
  rw [e] at s2
  exact s2
/-- forgetting slots -/
theorem Cv.forget (hl : ρ'.length = ρ.length) (h : ∀ (i : Nat) (d : D), ρ'[i]? = some (some d) → ρ[i]? = some (some d)) : Cv ρ S ρ' S := ⟨fun _ _ _ g => g, fun _ _ _ _ _ s => ⟨s.len.trans hl.symm, fun i d q => s.at_ i d (h i d q)⟩, fun _ q => q⟩
theorem ds_asg (i : Nat) {n : Str} (hN : X.N.Nodup) (he : DE X T B e ρ S Q) (k : ∀ d S', Q d S' → P.nx (ρ.set i (some d)) S') (hi : X.N[i]? = some n := by rfl) (hx : Loc X.env.scope n := by first | exact Or.inl rfl | exact Or.inr rfl)
    (hs : swapsWith e (some (.Name n pos')) pos.line X.env = pure false := by rfl) (hf : X.fn n = true ∨ X.env.scope.names.lookup n = some .local := by first | exact .inl rfl | exact .inr rfl) : DS X T B (.Assign [.Name n pos'] e pos) ρ S P := fun σ H g s =>
  wS_of (ps_set hN hi hx pe_w hs hf) (wE_mono (he σ H g s) fun v H1 ⟨d, S', q, r, g', x'⟩ => ⟨ρ.set i (some d), S', k d S' q, g', (s.ext x').set r i⟩)
theorem ds_expr (he : DE X T B e ρ S Q) (k : ∀ d S', Q d S' → P.nx ρ S') (hs : swapsWith e none pos.line X.env = pure false := by rfl) : DS X T B (.Expr e pos) ρ S P := fun σ H g s =>
  wS_of (ps_expr pe_w hs) (wE_mono (he σ H g s) fun v H1 ⟨d, S', q, r, g', x'⟩ => ⟨ρ, S', k d S' q, g', s.ext x'⟩)
theorem ds_ret (he : DE X T B e ρ S Q) (k : ∀ d S', Q d S' → P.rt d S') : DS X T B (.Return (some e) pos) ρ S P := fun σ H g s =>
  wS_of (ps_ret pe_w) (wE_mono (he σ H g s) fun v H1 ⟨d, S', q, r, g', x'⟩ => ⟨d, S', k d S' q, g', r⟩)
theorem ds_retN (k : P.rt .non S) : DS X T B (.Return none pos) ρ S P := fun σ H g s => wS_of ps_retN ⟨.non, S, k, g, .non⟩
theorem ds_pass (k : P.nx ρ S) : DS X T B (.Pass pos) ρ S P := fun σ H g s => wS_of ps_pass ⟨ρ, S, k, g, s⟩
theorem ds_break (k : P.bk ρ S) : DS X T B (.Break pos) ρ S P := fun σ H g s => wS_of ps_break ⟨ρ, S, k, g, s⟩
theorem ds_continue (k : P.ct ρ S) : DS X T B (.Continue pos) ρ S P := fun σ H g s => wS_of ps_continue ⟨ρ, S, k, g, s⟩
theorem ds_if {k : Bool} (h : DT X T B c ρ S k S1) (h1 : k = true → DSs X T B sts ρ S1 P) (h2 : k = false → DSs X T B sts' ρ S1 P) : DS X T B (.If c sts sts' pos) ρ S P := fun σ H g s =>
  wS_of (ps_if pt_w pss_w pss_w) (wT_mono (h σ H g s) fun q H1 ⟨e1, g1, x1⟩ => by
    subst e1
    cases q with
    | true => rw [if_pos rfl]; exact h1 rfl σ H1 g1 (s.ext x1)
    | false => rw [if_neg Bool.false_ne_true]; exact h2 rfl σ H1 g1 (s.ext x1))
/-- name op= e -/
theorem ds_aug (i : Nat) {n : Str} {op : Operator} {ti : TIp} (hN : X.N.Nodup) (h0 : ρ[i]? = some (some x)) (he : DX X T B e ρ S y S1) (ho : PIp X op ti) (hv : ∀ H vx vy, Gd X.K T B H S1 → Rep X.K (mm S1) H vx x → Rep X.K (mm S1) H vy y → ti vx vy H (Pt X T B H S1 fun d' S'' => d' = z ∧ S'' = S2))
    (hm : ∀ x y H (Q Q' : VK), (∀ v H', Q v H' → Q' v H') → ti x y H Q → ti x y H Q') (k : P.nx (ρ.set i (some z)) S2)
    (hi : X.N[i]? = some n := by rfl) (hx : Loc X.env.scope n := by first | exact Or.inl rfl | exact Or.inr rfl) (hf : X.fn n = true ∨ X.env.scope.names.lookup n = some .local := by first | exact .inl rfl | exact .inr rfl) :
    DS X T B (.AugAssign (.Name n pos') op e pos) ρ S P := fun σ H g s => by
  obtain ⟨v, q, r⟩ := s.at_ i x h0
  refine wS_of (ps_aug hN hi hx pe_w ho hf) ⟨v, q, wE_mono (he σ H g s) fun vy H1 ⟨d1, T1, ⟨e1, e2⟩, r1, g1, x1⟩ => ?_⟩
  subst e1; subst e2
  refine hm _ _ _ _ _ (fun w H' ⟨d, S', ⟨e3, e4⟩, r2, g2, x2⟩ => ?_) (hv H1 v vy g1 (r.ext x1) r1)
  subst e3; subst e4
  exact ⟨_, _, k, g2, (s.ext (x1.trans x2)).set r2 i⟩
theorem mono_ipI {f : Int → Int → Int} : ∀ x y H (Q Q' : VK), (∀ v H', Q v H' → Q' v H') → ipI f x y H Q → ipI f x y H Q' := fun _ _ _ _ _ m ⟨i, j, e1, e2, q⟩ => ⟨i, j, e1, e2, m _ _ q⟩
theorem ds_augAdd (i : Nat) {n : Str} {u w : Int} (hN : X.N.Nodup) (h0 : ρ[i]? = some (some (.int u))) (he : DX X T B e ρ S (.int w) S1) (k : P.nx (ρ.set i (some (.int (u + w)))) S1)
    (hi : X.N[i]? = some n := by rfl) (hx : Loc X.env.scope n := by first | exact Or.inl rfl | exact Or.inr rfl) (hf : X.fn n = true ∨ X.env.scope.names.lookup n = some .local := by first | exact .inl rfl | exact .inr rfl) :
    DS X T B (.AugAssign (.Name n pos') .Add e pos) ρ S P :=
  ds_aug i hN h0 he ip_add (fun H vx vy g r1 r2 => by cases r1; cases r2; exact ⟨u, w, rfl, rfl, Pt.here ⟨rfl, rfl⟩ g (.int _)⟩) mono_ipI k hi hx hf
theorem ds_augI (i : Nat) {n : Str} {op : Operator} {f : Int → Int → Int} {u w : Int} (hN : X.N.Nodup) (h0 : ρ[i]? = some (some (.int u))) (he : DX X T B e ρ S (.int w) S1) (ho : OpR X (inplaceOp op) (rI0 fun i j => .int (f i j))) (k : P.nx (ρ.set i (some (.int (f u w)))) S1)
    (hi : X.N[i]? = some n := by rfl) (hx : Loc X.env.scope n := by first | exact Or.inl rfl | exact Or.inr rfl) (hf : X.fn n = true ∨ X.env.scope.names.lookup n = some .local := by first | exact .inl rfl | exact .inr rfl) :
    DS X T B (.AugAssign (.Name n pos') op e pos) ρ S P :=
  ds_aug (ti := rI0 fun i j => .int (f i j)) i hN h0 he (fun pins s σ H x y v u Q I r1 r2 h => ho pins s σ H x y v u Q I r1 r2 h) (fun H vx vy g r1 r2 => by cases r1; cases r2; exact ⟨u, w, rfl, rfl, Pt.here ⟨rfl, rfl⟩ g (.int _)⟩) mono_I0 k hi hx hf
theorem ds_augIC (i : Nat) {n : Str} {op : Operator} {C : Int → Int → Prop} {f : Int → Int → Int} {u w : Int} (hN : X.N.Nodup) (h0 : ρ[i]? = some (some (.int u))) (he : DX X T B e ρ S (.int w) S1) (ho : OpR X (inplaceOp op) (rI C fun i j => .int (f i j))) (hC : C u w) (k : P.nx (ρ.set i (some (.int (f u w)))) S1)
    (hi : X.N[i]? = some n := by rfl) (hx : Loc X.env.scope n := by first | exact Or.inl rfl | exact Or.inr rfl) (hf : X.fn n = true ∨ X.env.scope.names.lookup n = some .local := by first | exact .inl rfl | exact .inr rfl) :
    DS X T B (.AugAssign (.Name n pos') op e pos) ρ S P :=
  ds_aug (ti := rI C fun i j => .int (f i j)) i hN h0 he (fun pins s σ H x y v u Q I r1 r2 h => ho pins s σ H x y v u Q I r1 r2 h) (fun H vx vy g r1 r2 => by cases r1; cases r2; exact ⟨u, w, rfl, rfl, hC, Pt.here ⟨rfl, rfl⟩ g (.int _)⟩) mono_I k hi hx hf
/-- while: I by a measure -/
theorem ds_while (I : Nat → Rho → Sto → Prop) (m : Nat) (hp : PassesOwn (model X.prog X.w) X.A X.env X.xe) (h0 : I m ρ S)
    (hs : ∀ m ρ S, I m ρ S → ∃ k S1, DT X T B c ρ S k S1 ∧ (k = true → DSs X T B sts ρ S1 { nx := fun ρ' S' => ∃ m', m' < m ∧ I m' ρ' S', rt := P.rt, bk := P.nx, ct := fun ρ' S' => ∃ m', m' < m ∧ I m' ρ' S' }) ∧ (k = false → P.nx ρ S1)) : DS X T B (.While c sts [] pos) ρ S P := fun σ H g s =>
  wS_of (ps_while hp pt_w pss_w) ⟨fun m σ H => ∃ ρ S, I m ρ S ∧ Gd X.K T B H S ∧ Slots X.K (mm S) H σ ρ, ⟨m, ρ, S, h0, g, s⟩, fun m σ H ⟨ρ, S, i, g, s⟩ => by
    obtain ⟨k, S1, hc, h1, h2⟩ := hs m ρ S i
    refine wT_mono (hc σ H g s) fun b H1 ⟨e1, g1, x1⟩ => ?_
    subst e1
    cases b with
    | true =>
      rw [if_pos rfl]
      refine ⟨fun σ' H' => ∃ m', m' < m ∧ ∃ ρ S, I m' ρ S ∧ Gd X.K T B H' S ∧ Slots X.K (mm S) H' σ' ρ, fun _ _ q => q, ?_⟩
      exact wSs_mono (h1 rfl σ H1 g1 (s.ext x1)) (fun _ _ ⟨ρ, S, ⟨m', l, i'⟩, q⟩ => ⟨m', l, ρ, S, i', q⟩) (fun _ _ q => q) (fun _ _ q => q) fun _ _ ⟨ρ, S, ⟨m', l, i'⟩, q⟩ => ⟨m', l, ρ, S, i', q⟩
    | false =>
      rw [if_neg Bool.false_ne_true]
      exact ⟨ρ, S1, h2 rfl, g1, s.ext x1⟩⟩
/-! ### targets -/
theorem dg_name (i : Nat) {n : Str} (hN : X.N.Nodup) (hi : X.N[i]? = some n := by rfl) (hx : Loc X.env.scope n := by first | exact Or.inl rfl | exact Or.inr rfl) (hf : X.fn n = true ∨ X.env.scope.names.lookup n = some .local := by first | exact .inl rfl | exact .inr rfl) :
    DG X (.Name n pos) x ρ (ρ.set i (some x)) [i] := fun M σ H v s r => wG_of (pg_name hN hi hx hf) ⟨rfl, s.set r i, fun j hj => List.getElem?_set_ne (fun z => hj (by rw [z]; simp))⟩
theorem Rep.tupT {K : PySem.W.Frag} {M : List Addr} {H : Hp} {v : V} {ds : List D} (r : Rep K M H v (.tup ds)) : ∃ a vs, v = .ref a ∧ SqT K H a vs ∧ Reps K M H vs ds := by
  cases r with
  | tupK k q => exact ⟨_, _, rfl, .inr k, q⟩
  | tup n h q => exact ⟨_, _, rfl, .inl h, q⟩
theorem Rep.lstL {K : PySem.W.Frag} {M : List Addr} {H : Hp} {v : V} {ds : List D} (r : Rep K M H v (.lst ds)) : ∃ a vs, v = .ref a ∧ SqL K H a vs ∧ Reps K M H vs ds := by
  cases r with
  | lst n h q => exact ⟨_, _, rfl, .inl h, q⟩
theorem dg_pair (i j : Nat) {n m : Str} {k : Nat} {p1 p2 : Pos} {d1 d2 : D} (hN : X.N.Nodup) (hc : X.calm = true) (hi : X.N[i]? = some n := by rfl) (hj : X.N[j]? = some m := by rfl) (hx : Loc X.env.scope n := by first | exact Or.inl rfl | exact Or.inr rfl) (hy : Loc X.env.scope m := by first | exact Or.inl rfl | exact Or.inr rfl)
    (hf : X.fn n = true ∨ X.env.scope.names.lookup n = some .local := by first | exact .inl rfl | exact .inr rfl) (hg : X.fn m = true ∨ X.env.scope.names.lookup m = some .local := by first | exact .inl rfl | exact .inr rfl)
    (hl : (assignEach [.Name n p1, .Name m p2] X.env).length = 2 := by rfl) (hst : (assignEach [.Name n p1, .Name m p2] X.env).findIdx? (·.1) = none := by rfl)
    (h1 : (assignEach [.Name n p1, .Name m p2] X.env).map (·.2) = assign (.Name n p1) X.env :: (assignEach [.Name m p2] X.env).map (·.2) := by rfl) (h2 : (assignEach [.Name m p2] X.env).map (·.2) = assign (.Name m p2) X.env :: (assignEach [] X.env).map (·.2) := by rfl) :
    DG X (.Tuple [.Name n p1, .Name m p2] k pos) (.tup [d1, d2]) ρ ((ρ.set i (some d1)).set j (some d2)) [i, j] := fun M σ H v s r => by
  obtain ⟨a, vs, e1, ht, rs⟩ := r.tupT
  cases rs with
  | cons r1 rs =>
    cases rs with
    | cons r2 rs =>
      cases rs
      exact wG_of (pg_tup hc (pgs_cons (pg_name hN hi hx hf) (pgs_cons (pg_name hN hj hy hg) pgs_nil h2) h1) hl hst) ⟨a, _, e1, ht, rfl, _, _, rfl, _, _, rfl, rfl, rfl, (s.set r1 i).set r2 j, fun k hk => by
        rw [List.getElem?_set_ne (fun z => hk (by rw [z]; simp)), List.getElem?_set_ne (fun z => hk (by rw [z]; simp))]⟩
theorem ds_asg2 (i j : Nat) {n m : Str} {k : Nat} {p1 p2 : Pos} {d1 d2 : D} (hN : X.N.Nodup) (hc : X.calm = true) (he : DX X T B e ρ S (.tup [d1, d2]) S1) (kk : P.nx ((ρ.set i (some d1)).set j (some d2)) S1)
    (hi : X.N[i]? = some n := by rfl) (hj : X.N[j]? = some m := by rfl) (hx : Loc X.env.scope n := by first | exact Or.inl rfl | exact Or.inr rfl) (hy : Loc X.env.scope m := by first | exact Or.inl rfl | exact Or.inr rfl)
    (hf : X.fn n = true ∨ X.env.scope.names.lookup n = some .local := by first | exact .inl rfl | exact .inr rfl) (hg : X.fn m = true ∨ X.env.scope.names.lookup m = some .local := by first | exact .inl rfl | exact .inr rfl)
    (hl : (assignEach [.Name n p1, .Name m p2] X.env).length = 2 := by rfl) (hst : (assignEach [.Name n p1, .Name m p2] X.env).findIdx? (·.1) = none := by rfl)
    (h1 : (assignEach [.Name n p1, .Name m p2] X.env).map (·.2) = assign (.Name n p1) X.env :: (assignEach [.Name m p2] X.env).map (·.2) := by rfl) (h2 : (assignEach [.Name m p2] X.env).map (·.2) = assign (.Name m p2) X.env :: (assignEach [] X.env).map (·.2) := by rfl)
    (hs : swapsWithSole [.Tuple [.Name n p1, .Name m p2] k pos'] e pos.line X.env = pure false := by rfl) (hw : swappedStores [.Tuple [.Name n p1, .Name m p2] k pos'] e X.env = pure none := by rfl)
    (ha : (assignEach [.Tuple [.Name n p1, .Name m p2] k pos'] X.env).map (·.2) = [assign (.Tuple [.Name n p1, .Name m p2] k pos') X.env] := by rfl) :
    DS X T B (.Assign [.Tuple [.Name n p1, .Name m p2] k pos'] e pos) ρ S P := fun σ H g s =>
  wS_of (ps_asg pe_w pg_w hs hw ha) (wE_mono (he σ H g s) fun v H1 ⟨d1, T1, ⟨e1, e2⟩, r1, g1, x1⟩ => by
    subst e1; subst e2
    exact wG_mono (dg_pair i j hN hc hi hj hx hy hf hg hl hst h1 h2 _ σ H1 v (s.ext x1) r1) fun σ' H' ⟨e3, s', _⟩ => by
      subst e3
      exact ⟨_, _, kk, g1, s'⟩)
/-! ### for -/
/-- what stands since H -/
def Bk.since (B : Bk) (H : Hp) (S : Sto) : Bk := ⟨fun H' S' => B.R H' S' ∧ Ext (mm S) (mm S') H H', fun H1 S1 H2 S2 ⟨r, x⟩ e => ⟨B.mono _ _ _ _ r e, x.trans e⟩⟩
theorem Bk.since_le (B : Bk) (H : Hp) (S : Sto) : B.Le (B.since H S) := ⟨fun _ _ h => h.1⟩
theorem Gd.since {K : PySem.W.Frag} {H H' : Hp} (g : Gd K T B H' S') (x : Ext (mm S) (mm S') H H') : Gd K T (B.since H S) H' S' := ⟨g.g, g.r, x⟩
theorem Gd.le {K : PySem.W.Frag} {B' : Bk} {H : Hp} (h : B.Le B') (g : Gd K T B' H S) : Gd K T B H S := ⟨g.g, h.r _ _ g.r⟩
theorem ends_le {B' : Bk} (h : B.Le B') {σ : L2.St} {H : Hp} {D : Ends} (w : wSs X sts (ends X T B' P) σ H) : wSs X sts (ends X T B P) σ H :=
  wSs_mono w (fun _ _ ⟨ρ, S, p, g, q⟩ => ⟨ρ, S, p, g.le h, q⟩) (fun _ _ ⟨ρ, S, p, g, q⟩ => ⟨ρ, S, p, g.le h, q⟩) (fun _ _ ⟨ρ, S, p, g, q⟩ => ⟨ρ, S, p, g.le h, q⟩) fun _ _ ⟨ρ, S, p, g, q⟩ => ⟨ρ, S, p, g.le h, q⟩
theorem ds_for {iter : Expr} {xs : List D} {V : Sto → Prop} (I : Nat → Rho → Sto → Prop) (hp : PassesOwn (model X.prog X.w) X.A X.env X.xe) (hc : X.calm = true) (hi : DI X T B tg iter ρ S xs V S1) (h0 : I 0 ρ S1)
    (hs : ∀ B', B.Le B' → ∀ i x ρ' S', xs[i]? = some x → I i ρ' S' → ∃ ρ2 ix, DG X tg x ρ' ρ2 ix ∧ DSs X T B' sts ρ2 S' { nx := I (i + 1), rt := P.rt, bk := P.nx, ct := I (i + 1) })
    (hd : ∀ ρ' S', I xs.length ρ' S' → P.nx ρ' S') (hV : ∀ i ρ' S', I i ρ' S' → V S' := by intros; trivial) (hf : ∀ x, foldedSetIterable iter X.env x = pure x := by intro _; rfl) : DS X T B (.For tg iter sts [] pos) ρ S P := fun σ H g s => by
  refine wS_of (ps_for hp hc pi_w pg_w pss_w hf) (wI_mono (hi σ H g s) fun J H1 ⟨g1, x1, Y⟩ => ?_)
  refine ⟨fun i m σ' H' => m = xs.length - i ∧ i ≤ xs.length ∧ ∃ ρ' S', I i ρ' S' ∧ Gd X.K T (B.since H1 S1) H' S' ∧ Slots X.K (mm S') H' σ' ρ', ⟨_, rfl, Nat.zero_le _, ρ, S1, h0, g1.since (Ext.refl _ _), s.ext x1⟩, ?_⟩
  rintro i m σ' H' ⟨rfl, hil, ρ', S', hI, g', s'⟩
  obtain ⟨y1, y2⟩ := Y i H' S' (hV _ _ _ hI) g'.r.2 g'.g
  by_cases hlt : i < xs.length
  · obtain ⟨go, st⟩ := y1 hlt
    refine .inr ⟨go, fun σ' H' => ∃ ρ' S', I (i + 1) ρ' S' ∧ Gd X.K T (B.since H1 S1) H' S' ∧ Slots X.K (mm S') H' σ' ρ', fun σ2 H2 q => ⟨xs.length - (i + 1), by omega, rfl, hlt, q⟩, fun x H3 hy => ?_⟩
    obtain ⟨d, hd', r, x3, g3⟩ := st x H3 hy
    obtain ⟨ρ2, ix, hg, hb⟩ := hs _ (B.since_le H1 S1) i d ρ' S' hd' hI
    have g3' := g'.to x3 g3
    refine wG_mono (hg _ σ' H3 x (s'.ext x3) r) fun σ4 H4 ⟨e4, s4, _⟩ => ?_
    subst e4
    exact wSs_mono (hb σ4 _ g3' s4) (fun _ _ q => q) (fun _ _ ⟨d, S, p, g, q⟩ => ⟨d, S, p, g.le (B.since_le H1 S1), q⟩) (fun _ _ ⟨ρ, S, p, g, q⟩ => ⟨ρ, S, p, g.le (B.since_le H1 S1), q⟩) fun _ _ q => q
  · have e : i = xs.length := by omega
    subst e
    exact .inl ⟨y2 rfl, ρ', S', hd _ _ hI, g'.le (B.since_le H1 S1), s'⟩
/-! ### lists and tuples that are read: data, or owned -/
/-- d is c, or a reference to an owned object that is worth c -/
def Vw (S : Sto) (d c : D) : Prop := d = c ∨ ∃ l, d = .ref l ∧ (l, c) ∈ S
theorem Vw.rfl' : Vw S d d := .inl rfl
theorem Vw.own {l : Addr} {c : D} (h : (l, c) ∈ S) : Vw S (.ref l) c := .inr ⟨l, rfl, h⟩
theorem Vw.lst {K : PySem.W.Frag} {H : Hp} {v : V} {xs : List D} (h : Vw S d (.lst xs)) (g : GoodS K T H S) (r : Rep K (mm S) H v d) : ∃ a vs, v = .ref a ∧ SqL K H a vs ∧ Reps K (mm S) H vs xs := by
  rcases h with h | ⟨l, h, hm⟩
  · subst h
    exact r.lstL
  · subst h
    cases r
    obtain ⟨vs, h1, h2⟩ := g.own _ hm
    exact ⟨l, vs, rfl, SqL.of h1, h2⟩
theorem Rep.tupT' {K : PySem.W.Frag} {M : List Addr} {H : Hp} {v : V} {ds : List D} (r : Rep K M H v (.tup ds)) : ∃ a vs, v = .ref a ∧ (∀ M' H', Ext M M' H H' → SqT K H' a vs) ∧ Reps K M H vs ds := by
  cases r with
  | tupK k q => exact ⟨_, _, rfl, fun _ _ _ => .inr k, q⟩
  | tup n h q => exact ⟨_, _, rfl, fun _ _ e => .inl (Rd.ext e n h fun _ z => by cases z), q⟩
theorem Rep.lstL' {K : PySem.W.Frag} {M : List Addr} {H : Hp} {v : V} {ds : List D} (r : Rep K M H v (.lst ds)) : ∃ a vs, v = .ref a ∧ (∀ M' H', Ext M M' H H' → SqL K H' a vs) ∧ Reps K M H vs ds := by
  cases r with
  | lst n h q => exact ⟨_, _, rfl, fun _ _ e => .inl (Rd.ext e n h fun _ z => by cases z), q⟩
theorem SqL.uniq {K : PySem.W.Frag} {H : Hp} {a : Addr} {vs : List V} (h : SqL K H a vs) : SqL K H a vs := h
/-! ### what is walked -/
theorem di_lst {xs : List D} (h : DX X T B e ρ S (.lst xs) S') : DI X T B tg e ρ S xs (fun _ => True) S' := fun σ H g s =>
  wI_of (pi_list pe_w) (wE_mono (h σ H g s) fun v H1 ⟨d1, T1, ⟨e1, e2⟩, r1, g1, x1⟩ => by
    subst e1; subst e2
    obtain ⟨a, vs, ev, hl, rs⟩ := r1.lstL'
    refine ⟨a, ev, ⟨vs, hl _ _ (Ext.refl _ _)⟩, g1, x1, fun i H2 S2 _ x2 g2 => ⟨fun hlt => ?_, fun hi => ⟨vs, hl _ _ x2, by rw [rs.length]; omega⟩⟩⟩
    obtain ⟨w, hw, rw'⟩ := rs.get (List.getElem?_eq_getElem hlt)
    refine ⟨⟨vs, w, hl _ _ x2, hw⟩, fun x H3 hy => ?_⟩
    obtain ⟨e3, hy⟩ := hy
    subst e3
    have := hy vs (hl _ _ x2)
    rw [hw] at this; cases this
    exact ⟨_, List.getElem?_eq_getElem hlt, rw'.ext x2, Ext.refl _ _, g2⟩)
theorem di_tup {xs : List D} (h : DX X T B e ρ S (.tup xs) S') : DI X T B tg e ρ S xs (fun _ => True) S' := fun σ H g s =>
  wI_of (pi_tup pe_w) (wE_mono (h σ H g s) fun v H1 ⟨d1, T1, ⟨e1, e2⟩, r1, g1, x1⟩ => by
    subst e1; subst e2
    obtain ⟨a, vs, ev, hl, rs⟩ := r1.tupT'
    refine ⟨a, ev, ⟨vs, hl _ _ (Ext.refl _ _)⟩, g1, x1, fun i H2 S2 _ x2 g2 => ⟨fun hlt => ?_, fun hi => ⟨vs, hl _ _ x2, by rw [rs.length]; omega⟩⟩⟩
    obtain ⟨w, hw, rw'⟩ := rs.get (List.getElem?_eq_getElem hlt)
    refine ⟨⟨vs, w, hl _ _ x2, hw⟩, fun x H3 hy => ?_⟩
    obtain ⟨e3, hy⟩ := hy
    subst e3
    have := hy vs (hl _ _ x2)
    rw [hw] at this; cases this
    exact ⟨_, List.getElem?_eq_getElem hlt, rw'.ext x2, Ext.refl _ _, g2⟩)
/-- an owned list that stays as it is -/
theorem di_own {l : Addr} {xs : List D} (h : DX X T B e ρ S (.ref l) S') (hm : (l, .lst xs) ∈ S') : DI X T B tg e ρ S xs (fun S => (l, .lst xs) ∈ S) S' := fun σ H g s =>
  wI_of (pi_list pe_w) (wE_mono (h σ H g s) fun v H1 ⟨d1, T1, ⟨e1, e2⟩, r1, g1, x1⟩ => by
    subst e1; subst e2; cases r1
    have at_ : ∀ H2 S2, (l, D.lst xs) ∈ S2 → GoodS X.K T H2 S2 → ∃ vs, H2 l = some (.lst vs) ∧ Reps X.K (mm S2) H2 vs xs := fun H2 S2 hm g => g.own _ hm
    obtain ⟨vs, h1, h2⟩ := at_ H1 _ hm g1.g
    refine ⟨l, rfl, ⟨vs, SqL.of h1⟩, g1, x1, fun i H2 S2 hm2 x2 g2 => ?_⟩
    obtain ⟨ws, k1, k2⟩ := at_ H2 S2 hm2 g2
    refine ⟨fun hlt => ?_, fun hi => ⟨ws, SqL.of k1, by rw [k2.length]; omega⟩⟩
    obtain ⟨w, hw, rw'⟩ := k2.get (List.getElem?_eq_getElem hlt)
    refine ⟨⟨ws, w, SqL.of k1, hw⟩, fun x H3 hy => ?_⟩
    obtain ⟨e3, hy⟩ := hy
    subst e3
    have := hy ws (SqL.of k1)
    rw [hw] at this; cases this
    exact ⟨_, List.getElem?_eq_getElem hlt, rw', Ext.refl _ _, g2⟩)
def rng (lo : Int) (n : Nat) : List D := (List.range n).map fun k => D.int (lo + (k : Nat))
theorem rng_length (lo : Int) (n : Nat) : (rng lo n).length = n := by unfold rng; rw [List.length_map, List.length_range]
theorem rng_get {lo : Int} {n i : Nat} {x : D} (h : (rng lo n)[i]? = some x) : i < n ∧ x = .int (lo + i) := by
  unfold rng at h
  rw [List.getElem?_map] at h
  by_cases hi : i < n
  · rw [List.getElem?_range hi] at h
    exact ⟨hi, (Option.some.inj h).symm⟩
  · rw [List.getElem?_eq_none (by rw [List.length_range]; omega)] at h
    cases h
theorem yields_rng {K : PySem.W.Frag} {lo : Int} {n : Nat} {V : Sto → Prop} {M : List Addr} {H : Hp} : Yields K T (rng lo n) V M H (Itr lo n) := fun i H2 S2 _ x2 g2 => by
  rw [rng_length]
  refine ⟨fun hlt => ⟨hlt, fun x H3 hy => ?_⟩, fun hi => by subst hi; exact Nat.le_refl _⟩
  obtain ⟨e3, hy⟩ := hy
  subst e3; subst hy
  exact ⟨.int (lo + i), by unfold rng; rw [List.getElem?_map, List.getElem?_range hlt]; rfl, .int _, Ext.refl _ _, g2⟩
theorem di_range1 {p : Pos} {j : Int} (hg : Gl X "range") (hm : X.mg "range" = none) (h : DX X T B a ρ S (.int j) S') (h1 : -(2 ^ 62) ≤ j) (h2 : j < 2 ^ 62) (hs : starEach [a] X.env = [(false, eval a X.env)] := by rfl) (hs0 : starEach [a] X.env = (false, eval a X.env) :: starEach [] X.env := by rfl) :
    DI X T B tg (.Call (.Name "range" p) [a] [] pos) ρ S (rng 0 j.toNat) (fun _ => True) S' := fun σ H g s =>
  wI_of (pi_range1 hg hm (pa_cons pe_w pa_nil hs0) hs) (wE_mono (h σ H g s) fun v H1 ⟨d1, T1, ⟨e1, e2⟩, r1, g1, x1⟩ => by
    subst e1; subst e2; cases r1
    exact ⟨j, rfl, h1, h2, g1, x1, yields_rng⟩)
theorem di_range2 {p : Pos} {i j : Int} (hg : Gl X "range") (hm : X.mg "range" = none) (h : DX X T B a ρ S (.int i) S1) (h' : DX X T B b ρ S1 (.int j) S') (hb : -(2 ^ 62) ≤ i ∧ i < 2 ^ 62 ∧ -(2 ^ 62) ≤ j ∧ j < 2 ^ 62)
    (hs : starEach [a, b] X.env = [(false, eval a X.env), (false, eval b X.env)] := by rfl) (hs2 : starEach [b] X.env = [(false, eval b X.env)] := by rfl) (hs0 : starEach [a, b] X.env = (false, eval a X.env) :: starEach [b] X.env := by rfl) (hs1 : starEach [b] X.env = (false, eval b X.env) :: starEach [] X.env := by rfl) :
    DI X T B tg (.Call (.Name "range" p) [a, b] [] pos) ρ S (rng i (j - i).toNat) (fun _ => True) S' := fun σ H g s =>
  wI_of (pi_range2 hg hm (pa_cons pe_w (pa_cons pe_w pa_nil hs1) hs0) hs hs2) (wE_mono (h σ H g s) fun v H1 ⟨d1, T1, ⟨e1, e2⟩, r1, g1, x1⟩ => by
    subst e1; subst e2; cases r1
    refine wE_mono (h' σ H1 g1 (s.ext x1)) fun v2 H2 ⟨d2, T2, ⟨e3, e4⟩, r2, g2, x2⟩ => ?_
    subst e3; subst e4; cases r2
    exact ⟨i, j, rfl, hb, g2, x1.trans x2, yields_rng⟩)
/-- the signs of a text -/
def signs (u : Str) : List D := u.cps.toList.map fun c => D.str ⟨#[c]⟩
theorem di_str {u : Str} (h : DX X T B e ρ S (.str u) S') : DI X T B tg e ρ S (signs u) (fun _ => True) S' := fun σ H g s =>
  wI_of (pi_str pe_w) (wE_mono (h σ H g s) fun v H1 ⟨d1, T1, ⟨e1, e2⟩, r1, g1, x1⟩ => by
    subst e1; subst e2; cases r1
    have hl : (signs u).length = u.cps.size := by unfold signs; rw [List.length_map, Array.length_toList]
    refine ⟨u, rfl, g1, x1, fun i H2 S2 _ x2 g2 => ?_⟩
    rw [hl]
    refine ⟨fun hlt => ⟨hlt, fun x H3 hy => ?_⟩, fun hi => by subst hi; exact Nat.le_refl _⟩
    obtain ⟨e3, c, hc, hy⟩ := hy
    subst e3; subst hy
    refine ⟨.str ⟨#[c]⟩, ?_, .str _, Ext.refl _ _, g2⟩
    unfold signs
    rw [List.getElem?_map, Array.getElem?_toList, hc]
    rfl)
end
end DL
set_option Elab.async false
set_option linter.all false
set_option maxRecDepth 100000
set_option maxHeartbeats 4000000
namespace DL
open PySem PySem.Spec PyProof.Rows L2
/-! ### comprehensions -/
def wipeR (ρ : Rho) : List Nat → Rho
  | [] => ρ
  | v :: vs => (wipeR ρ vs).set v none
theorem wipeR_length (ρ : Rho) : ∀ vs : List Nat, (wipeR ρ vs).length = ρ.length
  | [] => rfl
  | v :: vs => by unfold wipeR; rw [List.length_set, wipeR_length ρ vs]
theorem wipeR_get {ρ : Rho} {i : Nat} {x : D} : ∀ {vs : List Nat}, (wipeR ρ vs)[i]? = some (some x) → ρ[i]? = some (some x) ∧ i ∉ vs
  | [], h => ⟨h, by simp⟩
  | v :: vs, h => by
    unfold wipeR at h
    by_cases hi : v = i
    · subst hi
      by_cases hv : v < (wipeR ρ vs).length
      · rw [List.getElem?_set_self hv] at h; cases h
      · rw [List.getElem?_eq_none (by simpa using hv)] at h; cases h
    · rw [List.getElem?_set_ne hi] at h
      obtain ⟨h1, h2⟩ := wipeR_get h
      exact ⟨h1, by simp only [List.mem_cons, not_or]; exact ⟨fun e => hi e.symm, h2⟩⟩
theorem Slots.wipe {K : PySem.W.Frag} {M : List Addr} {H : Hp} {σ : L2.St} {ρ : Rho} (s : Slots K M H σ ρ) (vs : List Nat) : Slots K M H (L2.wipe σ vs) (wipeR ρ vs) := by
  refine ⟨by rw [wipe_length, wipeR_length]; exact s.len, fun i d h => ?_⟩
  obtain ⟨h1, h2⟩ := wipeR_get h
  obtain ⟨v, q, r⟩ := s.at_ i d h1
  exact ⟨v, by rw [wipe_out h2]; exact q, r⟩
theorem wipe_in {σ : L2.St} {i : Nat} : ∀ {vs : List Nat}, i ∈ vs → i < σ.length → (L2.wipe σ vs)[i]? = some none
  | v :: vs, h, hl => by
    unfold L2.wipe
    by_cases hi : v = i
    · subst hi
      rw [List.getElem?_set_self (by rw [wipe_length]; exact hl)]
    · rw [List.getElem?_set_ne hi]
      rcases List.mem_cons.mp h with h | h
      · exact absurd h.symm hi
      · exact wipe_in h hl
theorem wipe_eq {σ τ : L2.St} {ix vs : List Nat} (hl : τ.length = σ.length) (h : ∀ j : Nat, j ∉ ix → τ[j]? = (L2.wipe σ vs)[j]?) (hs : ∀ i ∈ ix, i ∈ vs) : L2.wipe τ vs = L2.wipe σ vs := by
  apply List.ext_getElem?
  intro i
  by_cases hv : i ∈ vs
  · by_cases hi : i < σ.length
    · rw [wipe_in hv hi, wipe_in hv (by rw [hl]; exact hi)]
    · rw [List.getElem?_eq_none (by rw [wipe_length]; omega), List.getElem?_eq_none (by rw [wipe_length]; omega)]
  · rw [wipe_out hv, wipe_out hv]
    have e := h i fun z => hv (hs i z)
    rw [e, wipe_out hv]
def wTs (X : Cx) (ifs : List Expr) : TT := fun σ H Q => ∃ t, PTs X ifs t ∧ t σ H Q
theorem pts_w {X : Cx} {ifs : List Expr} : PTs X ifs (wTs X ifs) := ⟨fun pins s σ H Q I ⟨t, h, q⟩ => h.run pins s σ H Q I q⟩
def DTs (X : Cx) (T : List Addr) (B : Bk) (ifs : List Expr) (ρ : Rho) (S : Sto) (b : Bool) (S' : Sto) : Prop := ∀ σ H, Gd X.K T B H S → Slots X.K (mm S) H σ ρ → wTs X ifs σ H fun b' H' => b' = b ∧ Gd X.K T B H' S' ∧ Ext (mm S) (mm S') H H'
/-- one of the blocks of a comprehension in X -/
abbrev Cx.lc (X : Cx) (scope : Scope) (s : Shared) (H : Hp) (C : Addr) (cl : List (Str × Addr)) (fp : List Addr) : Cx := L2.Cx.blk X s H scope (compEnvC scope cl C X.env) fp
section
variable {X : Cx} {T : List Addr} {B : Bk} {elt tg iter c : Expr} {ifs : List Expr} {scope : Scope} {own : List (Str × Nat)} {ρ : Rho} {S S1 : Sto} {pos pos' : Pos} {xs : List D} {V : Sto → Prop}
theorem dts_nil {S : Sto} : DTs X T B [] ρ S true S := fun σ H g s => ⟨_, pts_nil, rfl, g, Ext.refl _ _⟩
theorem dts_one {S S' : Sto} {b : Bool} (h : DT X T B c ρ S b S') : DTs X T B [c] ρ S b S' := fun σ H g s => ⟨_, pts_one pt_w, h σ H g s⟩
def gU (X : Cx) (scope : Scope) (tg : Expr) : TG := fun v σ H' Q => ∀ s H C cl fp, wG (Cx.lc X scope s H C cl fp) tg v σ H' Q
def tU (X : Cx) (scope : Scope) (ifs : List Expr) : TT := fun σ H' Q => ∀ s H C cl fp, wTs (Cx.lc X scope s H C cl fp) ifs σ H' Q
def eU (X : Cx) (scope : Scope) (elt : Expr) : TE := fun σ H' Q => ∀ s H C cl fp, wE (Cx.lc X scope s H C cl fp) elt σ H' Q
theorem pg_U (s : Shared) (H : Hp) (C : Addr) (cl : List (Str × Addr)) (fp : List Addr) : PG (L2.Cx.blk X s H scope (compEnvC scope cl C X.env) fp) tg (gU X scope tg) := ⟨fun pins st σ H' v u Q I r h => (h s H C cl fp).run pins st u I r⟩
theorem pts_U (s : Shared) (H : Hp) (C : Addr) (cl : List (Str × Addr)) (fp : List Addr) : PTs (L2.Cx.blk X s H scope (compEnvC scope cl C X.env) fp) ifs (tU X scope ifs) := ⟨fun pins st σ H' Q I h => pts_w.run pins st σ H' Q I (h s H C cl fp)⟩
theorem pe_U (s : Shared) (H : Hp) (C : Addr) (cl : List (Str × Addr)) (fp : List Addr) : PE (L2.Cx.blk X s H scope (compEnvC scope cl C X.env) fp) elt (eU X scope elt) := ⟨fun pins st σ H' Q I h => (h s H C cl fp).run pins st I⟩
/-- what the turns of a comprehension keep: the items so far, the store -/
structure LcOk (X : Cx) (T : List Addr) (B : Bk) (elt tg : Expr) (ifs : List Expr) (scope : Scope) (vs : List Nat) (ρ : Rho) (xs : List D) (V : Sto → Prop) (S1 : Sto) (I : Nat → List D → Sto → Prop) : Prop where
  h0 : I 0 [] S1
  hs : ∀ (i : Nat) x acc S2, xs[i]? = some x → I i acc S2 → ∃ ρ1 ix b S3, (∀ j ∈ ix, j ∈ vs) ∧ (∀ s H C cl fp, DG (Cx.lc X scope s H C cl fp) tg x (wipeR ρ vs) ρ1 ix) ∧
    (∀ s H C cl fp B' L, B.Le B' → DTs (Cx.lc X scope s H C cl fp) T B' ifs ρ1 (S2 ++ [(L, .lst acc)]) b (S3 ++ [(L, .lst acc)])) ∧
    (b = true → ∃ y S4, (∀ s H C cl fp B' L, B.Le B' → DX (Cx.lc X scope s H C cl fp) T B' elt ρ1 (S3 ++ [(L, .lst acc)]) y (S4 ++ [(L, .lst acc)])) ∧ acc.length < 100000 ∧ I (i + 1) (acc ++ [y]) S4) ∧ (b = false → I (i + 1) acc S3)
  hV : ∀ i acc S2 L, I i acc S2 → V (S2 ++ [(L, .lst acc)])
theorem lc_core {I : Nat → List D → Sto → Prop} {J : It} {H1 : Hp} (O : LcOk X T B elt tg ifs scope (own.map (·.2)) ρ xs V S1 I) (σ : L2.St) (H : Hp) (sl : Slots X.K (mm S) H σ ρ) (g1 : Gd X.K T B H1 S1) (x1 : Ext (mm S) (mm S1) H H1) (Y : Yields X.K T xs V (mm S1) H1 J) :
    tLc (fun _ _ R => R J H1) (gU X scope tg) (tU X scope ifs) (eU X scope elt) (own.map (·.2)) σ H
      (Pt X T B H S fun d S'' => ∃ acc S2 l, I xs.length acc S2 ∧ d = .ref l ∧ S'' = S2 ++ [(l, .lst acc)]) := by
  intro L hL
  have x2 : Ext (mm S1) (mm (S1 ++ [(L, .lst [])])) H1 (upd H1 L (.lst [])) := by rw [mm_append]; exact Ext.newO hL
  have g2 : Gd X.K T B (upd H1 L (.lst [])) (S1 ++ [(L, .lst [])]) := g1.to x2 (g1.g.newO hL ⟨[], upd_same, .nil⟩)
  refine ⟨fun i m H' => m = xs.length - i ∧ i ≤ xs.length ∧ ∃ acc S2, I i acc S2 ∧ Gd X.K T (B.since H1 S1) H' (S2 ++ [(L, .lst acc)]), ⟨_, rfl, Nat.zero_le _, [], S1, O.h0, g2.since x2⟩, ?_⟩
  rintro i m H' ⟨rfl, hil, acc, S2, hI, g'⟩
  have slw : Slots X.K (mm (S2 ++ [(L, .lst acc)])) H' (L2.wipe σ (own.map (·.2))) (wipeR ρ (own.map (·.2))) := ((sl.ext x1).ext g'.r.2).wipe _
  obtain ⟨y1, y2⟩ := Y i H' _ (O.hV _ _ _ L hI) g'.r.2 g'.g
  by_cases hlt : i < xs.length
  · obtain ⟨go, st⟩ := y1 hlt
    refine .inr ⟨go, fun H' => ∃ acc S2, I (i + 1) acc S2 ∧ Gd X.K T (B.since H1 S1) H' (S2 ++ [(L, .lst acc)]), fun H2 q => ⟨xs.length - (i + 1), by omega, rfl, hlt, q⟩, fun x H3 hy s H C cl fp => ?_⟩
    obtain ⟨d, hd', r, x3, g3⟩ := st x H3 hy
    have g3' := g'.to x3 g3
    obtain ⟨ρ1, ix, b0, S3, hix, hg0, ht0, he0, hf0⟩ := O.hs i d acc S2 hd' hI
    refine wG.mk fun pins st u I0 rv => thn ((hg0 s H C cl fp _ _ H3 x (slw.ext x3) r).run pins st u I0 rv) fun _ s' ⟨σ4, H4, I4, e4, s4, hj⟩ => ⟨σ4, H4, I4, ?_⟩
    subst e4
    have hl4 : σ4.length = (L2.wipe σ (own.map (·.2))).length := by rw [I4.len, I0.len]
    refine ⟨wipe_eq (by rw [hl4, wipe_length]) hj hix, fun s H C cl fp => ?_⟩
    obtain ⟨t, pt, q⟩ := ht0 s H C cl fp _ L (B.since_le H1 S1) σ4 _ g3' s4
    refine ⟨fun σ H Q => ∃ Q', t σ H Q' ∧ ∀ b H', Q' b H' → Q b H', ⟨fun pins s σ H Q I ⟨Q', q, m⟩ => thn (pt.run pins s σ H Q' I q) fun _ _ ⟨H', I', q'⟩ => ⟨H', I', m _ _ q'⟩⟩, _, q, fun b H5 ⟨e5, g5, x5⟩ => ?_⟩
    subst e5
    cases b with
    | false =>
      rw [if_neg Bool.false_ne_true]
      exact ⟨acc, S3, hf0 rfl, g5⟩
    | true =>
      rw [if_pos rfl]
      obtain ⟨y, S4, hy0, hz, hI2⟩ := he0 rfl
      intro s H C cl fp
      refine wE_mono (hy0 s H C cl fp _ L (B.since_le H1 S1) σ4 H5 g5 (s4.ext x5)) fun v H6 ⟨d6, S6, ⟨e6, e7⟩, r6, g6, x6⟩ => ?_
      subst e6; subst e7
      have hk : (S4 ++ [(L, D.lst acc)])[S4.length]? = some (L, .lst acc) := by simp
      obtain ⟨vs, hv, rvs⟩ := g6.g.own _ (List.mem_of_getElem? hk)
      refine ⟨vs, hv, by rw [rvs.length]; exact Nat.lt_of_lt_of_le hz (by decide), acc ++ [d6], S4, hI2, ?_⟩
      have es : (S4 ++ [(L, D.lst acc)]).set S4.length (L, .lst (acc ++ [d6])) = S4 ++ [(L, .lst (acc ++ [d6]))] := by simp
      have xw : Ext (mm (S4 ++ [(L, D.lst acc)])) (mm (S4 ++ [(L, D.lst acc)])) H6 (upd H6 L (.lst (vs ++ [v]))) := by
        have := Ext.write (o := .lst (vs ++ [v])) (d := .lst (acc ++ [d6])) g6.g hk
        rw [mm_set _ _ _ _ _ hk] at this
        exact this
      have gw := g6.g.write (o := .lst (vs ++ [v])) (d := .lst (acc ++ [d6])) hk ⟨_, upd_same, (rvs.ext xw).append (.cons (r6.ext xw) .nil)⟩
      have xw2 := Ext.write (o := .lst (vs ++ [v])) (d := .lst (acc ++ [d6])) g6.g hk
      rw [es] at gw xw2
      exact g6.to xw2 gw
  · have e : i = xs.length := by omega
    subst e
    exact .inl ⟨y2 rfl, .ref L, _, ⟨acc, S2, L, hI, rfl, rfl⟩, .ref L, g'.le (B.since_le H1 S1), x1.trans g'.r.2⟩
theorem lc_D {I : Nat → List D → Sto → Prop} (hi : DI X T B tg iter ρ S xs V S1) (O : LcOk X T B elt tg ifs scope (own.map (·.2)) ρ xs V S1 I) (σ : L2.St) (H : Hp) (g : Gd X.K T B H S) (sl : Slots X.K (mm S) H σ ρ) :
    tLc (wI X tg iter) (gU X scope tg) (tU X scope ifs) (eU X scope elt) (own.map (·.2)) σ H
      (Pt X T B H S fun d S'' => ∃ acc S2 l, I xs.length acc S2 ∧ d = .ref l ∧ S'' = S2 ++ [(l, .lst acc)]) :=
  wI_mono (hi σ H g sl) fun J H1 ⟨g1, x1, Y⟩ => lc_core O σ H sl g1 x1 Y
/-- [elt for tg in iter if ..] -/
theorem de_lc {I : Nat → List D → Sto → Prop} (hc : X.calm = true) (hN : X.N.Nodup) (hi : DI X T B tg iter ρ S xs V S1) (ok : BlkOk X.N X.env.scope scope own) (O : LcOk X T B elt tg ifs scope (own.map (·.2)) ρ xs V S1 I) (hs : ∀ x, foldedSetIterable iter X.env x = pure x := by intro _; rfl) :
    DE X T B (.ListComp elt [⟨tg, iter, ifs, 0⟩] scope pos) ρ S (fun d S'' => ∃ acc S2 l, I xs.length acc S2 ∧ d = .ref l ∧ S'' = S2 ++ [(l, .lst acc)]) := fun σ H g s =>
  wE_of (pe_lc (own := own) hc hN pi_w ok pg_U pts_U pe_U hs) (lc_D hi O σ H g s)
/-- y = [..] on a line -/
theorem ds_asgLc (i : Nat) {y : Str} {I : Nat → List D → Sto → Prop} {P : DEnds} {spos : Pos} (hc : X.calm = true) (hN : X.N.Nodup) (hi : DI X T B tg iter ρ S xs V S1) (ok : BlkOk X.N X.env.scope scope own) (O : LcOk X T B elt tg ifs scope (own.map (·.2)) ρ xs V S1 I)
    (k : ∀ acc S2 l, I xs.length acc S2 → P.nx (ρ.set i (some (.ref l))) (S2 ++ [(l, .lst acc)])) (hy : X.N[i]? = some y := by rfl) (hyl : X.env.scope.names.lookup y = some .local := by rfl)
    (hsw : swapsWith (.ListComp elt [⟨tg, iter, ifs, 0⟩] scope pos) (some (.Name y pos')) spos.line X.env = pure true := by exact sw_true rfl rfl rfl (by decide +kernel)) (hs : ∀ x, foldedSetIterable iter X.env x = pure x := by intro _; rfl) :
    DS X T B (.Assign [.Name y pos'] (.ListComp elt [⟨tg, iter, ifs, 0⟩] scope pos) spos) ρ S P := fun σ H g s =>
  wS_of (ps_setLc (own := own) hc hN hy hyl hsw pi_w ok pg_U pts_U pe_U hs) (wI_mono (lc_D hi O σ H g s) fun J H1 q L hL => by
    obtain ⟨W, w0, wt⟩ := q L hL
    refine ⟨W, w0, fun n m H2 w => ?_⟩
    rcases wt n m H2 w with ⟨st, d, S', ⟨acc, S2, l, hI, e1, e2⟩, r, g2, x2⟩ | go
    · subst e1; subst e2; cases r
      exact .inl ⟨st, _, _, k acc S2 L hI, g2, (s.ext x2).set (.ref L) i⟩
    · exact .inr go)
end
end DL
set_option Elab.async false
set_option linter.all false
set_option maxRecDepth 100000
set_option maxHeartbeats 4000000
namespace DL
open PySem PySem.Spec PyProof.Rows L2
/-! ### defs -/
/-- an exception by its class and fields -/
abbrev XP := Value → Option (List (Str × D)) → Sto → Prop
abbrev X0 : XP := fun _ _ _ => False
/-- what a def does to data: arguments, store, what is wanted of the result, of an exception -/
abbrev FT := List D → Sto → (D → Sto → Prop) → XP → Prop
/-- an exception as the hand layer tells it -/
def ExcIs (K : PySem.W.Frag) (T : List Addr) (PX : XP) (E : XK) (S : Sto) (H : Hp) : Prop :=
  (∀ c H' S', PX c none S' → GoodS K T H' S' → Ext (mm S) (mm S') H H' → E c none H') ∧
  (∀ c gs H' S' (dx : Addr) fs, PX c (some gs) S' → GoodS K T H' S' → Ext (mm S) (mm S') H H' → H' dx = some (.xd fs) → fs.map (·.1) = gs.map (·.1) → Reps K (mm S') H' (fs.map (·.2)) (gs.map (·.2)) → H dx = none → E c (some dx) H')
def spD (K : PySem.W.Frag) (T : List Addr) (F : FT) : Sp := fun vs H Q E => ∃ ds S P PX, GoodS K T H S ∧ Reps K (mm S) H vs ds ∧ F ds S P PX ∧
  (∀ v H' d S', P d S' → GoodS K T H' S' → Rep K (mm S') H' v d → Ext (mm S) (mm S') H H' → Q v H') ∧ ExcIs K T PX E S H
theorem ExcIs.none {K : PySem.W.Frag} {T : List Addr} {E : XK} {S : Sto} {H : Hp} : ExcIs K T X0 E S H := ⟨fun _ _ _ h => h.elim, fun _ _ _ _ _ _ h => h.elim⟩
/-- a def of the module that does F, called by its name with as many arguments as it has parameters -/
structure FN (P : Program) (w : World) (K : PySem.W.Frag) (mg : Str → Option Value) (base : Heap) (T : List Addr) (CX : CXT) (k : Nat) (x : Str) (ps : List Str) (F : FT) : Prop where
  ex : ∃ f fd, FnOk P w K mg base CX k f fd ps (spD K T F) ∧ mg x = some (.ref f) ∧ PySem.W.keepIn K (.ref f) = true ∧ Binds K fd ps []
theorem FN.mono {P : Program} {w : World} {K : PySem.W.Frag} {mg : Str → Option Value} {base : Heap} {T : List Addr} {CX : CXT} {j k : Nat} {x : Str} {ps : List Str} {F : FT} (h : FN P w K mg base T CX j x ps F) (hk : j ≤ k) : FN P w K mg base T CX k x ps F :=
  let ⟨f, fd, a, b⟩ := h.ex; ⟨f, fd, a.mono hk, b⟩
section
variable {X : Cx} {T : List Addr} {B : Bk} {e a b c o tg : Expr} {es : List Expr} {ρ ρ' : Rho} {S S1 S2 S3 S' : Sto} {d y z : D} {P : D → Sto → Prop} {PE : DEnds} {pos p apos cpos : Pos} {CX : CXT} {k : Nat} {x : Str} {ps : List Str} {F : FT} {ds : List D} {xs : List D}
theorem de_call (hF : FN X.prog X.w X.K X.mg X.base T CX k x ps F) (hr : Room k X.A) (hg : Gl X x) (hx : Passes CX X E0) (ha : DA X T B (e :: es) ρ S ds S1) (h : F ds S1 P X0) (hdb : (x == ("__debug__" : Str)) = false := by decide) (he : starEach (e :: es) X.env = (false, eval e X.env) :: starEach es X.env := by rfl) (hpl : (backTo pos (starEach es X.env)).any (·.1) = false := by rfl) :
    DE X T B (.Call (.Name x p) (e :: es) [] pos) ρ S P := fun σ H g s => by
  obtain ⟨f, fd, F, hm, hk, hb⟩ := hF.ex
  refine wE_of (pe_call (E := E0) F hr hg hm hk hb .nil hx pa_w hdb he hpl) (wA_mono (ha σ H g s) fun vs H1 ⟨r1, g1, x1⟩ => ?_)
  rw [List.append_nil]
  exact ⟨ds, S1, P, X0, g1.g, r1, h, fun v H' d S' pd g' r' x' => ⟨d, S', pd, r', g1.to x' g', x1.trans x'⟩, .none⟩
theorem de_call0 (hF : FN X.prog X.w X.K X.mg X.base T CX k x ps F) (hr : Room k X.A) (hg : Gl X x) (hx : Passes CX X E0) (h : F [] S P X0) (hdb : (x == ("__debug__" : Str)) = false := by decide) :
    DE X T B (.Call (.Name x p) [] [] pos) ρ S P := fun σ H g s => by
  obtain ⟨f, fd, F, hm, hk, hb⟩ := hF.ex
  exact wE_of (pe_call0 (E := E0) (dvs := []) F hr hg hm hk hb .nil hx hdb) ⟨[], S, P, X0, g.g, .nil, h, fun v H' d S' pd g' r' x' => ⟨d, S', pd, r', g.to x' g', x'⟩, .none⟩
/-- d in S may be seen as d' in S' -/
def Fz (d : D) (S : Sto) (d' : D) (S' : Sto) : Prop := ∀ K T H v, GoodS K T H S → Rep K (mm S) H v d → GoodS K T H S' ∧ Rep K (mm S') H v d' ∧ ∀ a ∈ mm S', a ∈ mm S
theorem Fz.refl : Fz d S d S := fun _ _ _ _ g r => ⟨g, r, fun _ h => h⟩
theorem Fz.drop (h : S'.Sublist S) : Fz d S d S' := fun _ _ _ _ g r => ⟨g.less h, r.less (mm_sub h), mm_sub h⟩
theorem Fz.tail (S' : Sto) : Fz d (S ++ S') d S := Fz.drop (List.sublist_append_left _ _)
theorem Fz.trans {d1 d2 d3 : D} {S1 S2 S3 : Sto} (h : Fz d1 S1 d2 S2) (k : Fz d2 S2 d3 S3) : Fz d1 S1 d3 S3 := fun K T H v g r => by
  obtain ⟨g2, r2, m2⟩ := h K T H v g r
  obtain ⟨g3, r3, m3⟩ := k K T H v g2 r2
  exact ⟨g3, r3, fun a ha => m2 a (m3 a ha)⟩
/-- the owned object that stands last is handed out as data -/
theorem Fz.last {l : Addr} : Fz (.ref l) (S ++ [(l, d)]) d S := fun K T H v g r => by
  cases r
  have sub : S.Sublist (S ++ [(l, d)]) := List.sublist_append_left _ _
  have hm : (l, d) ∈ S ++ [(l, d)] := List.mem_append_right _ List.mem_cons_self
  have nl : l ∉ mm S := fun z => by
    have nd := g.nd
    rw [mm_append] at nd
    exact (List.nodup_append.mp nd).2.2 l z l (by show l ∈ [l]; simp) rfl
  exact ⟨g.less sub, ((g.own _ hm).less (mm_sub sub)).froz nl, mm_sub sub⟩
/-- the slots at the entry -/
def startD (N : List Str) (ds : List D) : Rho := ds.map some ++ List.replicate (N.length - ds.length) none
theorem slots_start {K : PySem.W.Frag} {M : List Addr} {H : Hp} {N : List Str} {vs : List V} {ds : List D} (r : Reps K M H vs ds) : Slots K M H (L2.start N vs) (startD N ds) := by
  have hl := r.length
  refine ⟨by unfold L2.start startD; simp [hl], fun i d h => ?_⟩
  unfold startD at h
  by_cases hi : i < ds.length
  · rw [List.getElem?_append_left (by simpa using hi), List.getElem?_map] at h
    rw [List.getElem?_eq_getElem hi] at h
    have e : ds[i] = d := Option.some.inj (Option.some.inj h)
    obtain ⟨v, hv, rv⟩ := r.get (i := i) (d := d) (by rw [List.getElem?_eq_getElem hi, e])
    refine ⟨v, ?_, rv⟩
    unfold L2.start
    rw [List.getElem?_append_left (by rw [List.length_map, hl]; exact hi), List.getElem?_map, hv]
    rfl
  · rw [List.getElem?_append_right (by simpa using hi), List.getElem?_replicate] at h
    split at h <;> cases h
/-- what is wanted of a body -/
def bodyE (P : D → Sto → Prop) : DEnds where
  nx := fun _ S' => ∃ d' S'', Fz .non S' d' S'' ∧ P d' S''
  rt := fun d S' => ∃ d' S'', Fz d S' d' S'' ∧ P d' S''
/-- nothing is known but what stands since the entry -/
def Bk.entry (H : Hp) (S : Sto) : Bk := ⟨fun H' S' => Ext (mm S) (mm S') H H', fun _ _ _ _ r e => r.trans e⟩
/-- THE RULE for a def that raises nothing -/
theorem fn_d {P : Program} {w : World} {K : PySem.W.Frag} {mg : Str → Option Value} {base : Heap} {qual : Str} {st : Stmt} {f : Addr} {fd : FuncData} {N ps : List Str} {k : Nat} (Fn : Fun K x qual st f fd) (Sc : FnScope N ps (defScope st)) (hm : mg x = some (.ref f)) (hb : Binds K fd ps [])
    (len : ∀ ds S P PX, F ds S P PX → ds.length = ps.length)
    (body : ∀ (cdv : Value) (A : Around) (outer : List Env) (s : Shared) (H : Hp) (E : XK) (B : Bk) (ds : List D) (S : Sto) (Q : D → Sto → Prop) (PX : XP), Room k (A.deeper (envOfC qual (defScope st) s.heap.objs.size f cdv)) → F ds S Q PX →
      DSs (cxOf CX0 P w K mg base N qual (defScope st) f cdv A outer s H E).nox T B (defBody st) (startD N ds) S (bodyE Q)) : FN P w K mg base T CX0 (k + 1) x ps F := by
  refine ⟨f, fd, Fn.ok Sc (fun vs H Q E h => ?_) (fun cdv A outer s H vs Q E hr h => ?_), hm, Fn.kp, hb⟩
  · obtain ⟨ds, S, P, PX, g, r, hF, _⟩ := h
    rw [r.length]
    exact len _ _ _ _ hF
  · obtain ⟨ds, S, P', PX, g, r, hF, hQ, _⟩ := h
    have b := body cdv A outer s H E (Bk.entry H S) ds S P' PX hr hF (L2.start N vs) H ⟨g, Ext.refl _ _⟩ (slots_start r)
    refine ⟨_, pss_w, wSs_mono b ?_ ?_ (fun _ _ ⟨_, _, p, _⟩ => p.elim) fun _ _ ⟨_, _, p, _⟩ => p.elim⟩
    · rintro σ' H' ⟨ρ', S', ⟨d', S'', fz, p⟩, g', s'⟩
      obtain ⟨g2, r2, m2⟩ := fz _ _ _ .non g'.g .non
      exact hQ _ _ _ _ p g2 r2 (g'.r.less m2)
    · rintro v H' ⟨d, S', ⟨d', S'', fz, p⟩, g', rd⟩
      obtain ⟨g2, r2, m2⟩ := fz _ _ _ _ g'.g rd
      exact hQ _ _ _ _ p g2 r2 (g'.r.less m2)
/-! ### built-in functions by name -/
/-- r gives z of the arguments ds -/
def CV (X : Cx) (T : List Addr) (B : Bk) (r : List V → Hp → VK → Prop) (ds : List D) (S : Sto) (P : D → Sto → Prop) : Prop := ∀ H vs, Gd X.K T B H S → Reps X.K (mm S) H vs ds → r vs H (Pt X T B H S P)
theorem de_callB {id : String} {r : List V → Hp → VK → Prop} (hc : CallR X (.builtin id) r) (hm' : ∀ xs H (Q Q' : VK), (∀ v H', Q v H' → Q' v H') → r xs H Q → r xs H Q') (hg : Gl X x) (hm : X.mg x = none) (hv : bootBuiltins x = some (.builtin id)) (ha : DA X T B (e :: es) ρ S ds S1) (h : CV X T B r ds S1 P) (hn : x ≠ "__name__" := by decide) (hdb : (x == ("__debug__" : Str)) = false := by decide)
    (he : starEach (e :: es) X.env = (false, eval e X.env) :: starEach es X.env := by rfl) (hpl : (backTo pos (starEach es X.env)).any (·.1) = false := by rfl) : DE X T B (.Call (.Name x p) (e :: es) [] pos) ρ S P := fun σ H g s =>
  wE_of (pe_callB hc hg hm hv pa_w hn hdb he hpl) (wA_mono (ha σ H g s) fun vs H1 ⟨r1, g1, x1⟩ => hm' _ _ _ _ (fun v H' q => q.after x1) (h H1 vs g1 r1))
theorem de_callTy {T0 : String} {r : List V → Hp → VK → Prop} (hc : CallR X (.type T0) r) (hm' : ∀ xs H (Q Q' : VK), (∀ v H', Q v H' → Q' v H') → r xs H Q → r xs H Q') (hg : Gl X x) (hm : X.mg x = none) (hv : bootBuiltins x = some (.type T0)) (ha : DA X T B (e :: es) ρ S ds S1) (h : CV X T B r ds S1 P) (hn : x ≠ "__name__" := by decide) (hdb : (x == ("__debug__" : Str)) = false := by decide)
    (he : starEach (e :: es) X.env = (false, eval e X.env) :: starEach es X.env := by rfl) (hpl : (backTo pos (starEach es X.env)).any (·.1) = false := by rfl) : DE X T B (.Call (.Name x p) (e :: es) [] pos) ρ S P := fun σ H g s =>
  wE_of (pe_callTy hc hg hm hv pa_w hn hdb he hpl) (wA_mono (ha σ H g s) fun vs H1 ⟨r1, g1, x1⟩ => hm' _ _ _ _ (fun v H' q => q.after x1) (h H1 vs g1 r1))
variable {i j : Int}
abbrev rInt1 : List V → Hp → VK → Prop := fun xs H Q => (∃ i, xs = [.int i] ∧ Q (.int i) H) ∨ ∃ k, xs = [.bl k] ∧ Q (.int (if k then 1 else 0)) H
theorem dx_intI (hm : X.mg "int" = none) (hg : Gl X "int") (ha : DX X T B a ρ S (.int i) S1) (h1 : starEach (a :: []) X.env = (false, eval a X.env) :: starEach [] X.env := by rfl) : DX X T B (.Call (.Name "int" p) [a] [] pos) ρ S (.int i) S1 :=
  de_callTy (r := rInt1) call_int1 (fun _ _ _ _ m h => h.elim (fun ⟨i, e, q⟩ => .inl ⟨i, e, m _ _ q⟩) fun ⟨i, e, q⟩ => .inr ⟨i, e, m _ _ q⟩) hg hm (by decide +kernel) (da_cons ha da_nil h1) (fun H vs g r => by
    cases r with
    | cons r1 r2 => cases r1; cases r2; exact .inl ⟨i, rfl, Pt.here ⟨rfl, rfl⟩ g (.int _)⟩) (he := h1)
/-- the length of a list, a tuple -/
def LenD (S : Sto) (d : D) (n : Nat) : Prop := (∃ xs, Vw S d (.lst xs) ∧ xs.length = n) ∨ ∃ xs, d = .tup xs ∧ xs.length = n
abbrev rLenSq (K : PySem.W.Frag) : List V → Hp → VK → Prop := fun xs H Q => ∃ p ys, xs = [.ref p] ∧ (SqL K H p ys ∨ SqT K H p ys) ∧ Q (.int ys.length) H
theorem dx_len {n : Nat} (hm : X.mg "len" = none) (hg : Gl X "len") (ha : DX X T B a ρ S d S1) (hl : LenD S1 d n) (h1 : starEach (a :: []) X.env = (false, eval a X.env) :: starEach [] X.env := by rfl) : DX X T B (.Call (.Name "len" p) [a] [] pos) ρ S (.int n) S1 :=
  de_callB (r := rLenSq X.K) call_len_seq (fun _ _ _ _ m ⟨p, ys, e, h, q⟩ => ⟨p, ys, e, h, m _ _ q⟩) hg hm PySem.boot_len (da_cons ha da_nil h1) (fun H vs g r => by
    cases r with
    | cons r1 r2 =>
      cases r2
      rcases hl with ⟨xs, hv, hn⟩ | ⟨xs, hv, hn⟩
      · obtain ⟨q, ws, e1, e2, e3⟩ := hv.lst g.g r1
        subst e1
        exact ⟨q, ws, rfl, .inl e2, Pt.here ⟨rfl, rfl⟩ g (by rw [e3.length, hn]; exact .int _)⟩
      · subst hv
        obtain ⟨q, ws, e1, e2, e3⟩ := r1.tupT
        subst e1
        exact ⟨q, ws, rfl, .inr e2, Pt.here ⟨rfl, rfl⟩ g (by rw [e3.length, hn]; exact .int _)⟩) (he := h1)
theorem dx_lenL {xs : List D} (hm : X.mg "len" = none) (hg : Gl X "len") (ha : DX X T B a ρ S d S1) (hv : Vw S1 d (.lst xs)) (h1 : starEach (a :: []) X.env = (false, eval a X.env) :: starEach [] X.env := by rfl) : DX X T B (.Call (.Name "len" p) [a] [] pos) ρ S (.int (xs.length : Nat)) S1 := dx_len hm hg ha (.inl ⟨xs, hv, rfl⟩) h1
theorem dx_lenT {xs : List D} (hm : X.mg "len" = none) (hg : Gl X "len") (ha : DX X T B a ρ S (.tup xs) S1) (h1 : starEach (a :: []) X.env = (false, eval a X.env) :: starEach [] X.env := by rfl) : DX X T B (.Call (.Name "len" p) [a] [] pos) ρ S (.int (xs.length : Nat)) S1 := dx_len hm hg ha (.inr ⟨xs, rfl, rfl⟩) h1
theorem dx_lenS {u : Str} (hm : X.mg "len" = none) (hg : Gl X "len") (ha : DX X T B a ρ S (.str u) S1) (hu : u.length ≤ 100000) (h1 : starEach (a :: []) X.env = (false, eval a X.env) :: starEach [] X.env := by rfl) : DX X T B (.Call (.Name "len" p) [a] [] pos) ρ S (.int (u.length : Nat)) S1 :=
  de_callB (r := fun xs H Q => ∃ z, xs = [.str z] ∧ z.length ≤ sizeLine ∧ Q (.int z.length) H) call_len_str (fun _ _ _ _ m ⟨p, e, h, q⟩ => ⟨p, e, h, m _ _ q⟩) hg hm PySem.boot_len (da_cons ha da_nil h1) (fun H vs g r => by
    cases r with
    | cons r1 r2 =>
      cases r2; cases r1
      exact ⟨u, rfl, Nat.le_trans hu (by decide), Pt.here ⟨rfl, rfl⟩ g (.int _)⟩) (he := h1)
/-- list(xs), xs a list or tuple -/
def SeqD (S : Sto) (d : D) (xs : List D) : Prop := Vw S d (.lst xs) ∨ d = .tup xs
abbrev rListOf (K : PySem.W.Frag) : List V → Hp → VK → Prop := fun xs H Q => ∃ p ys, xs = [.ref p] ∧ (SqL K H p ys ∨ SqT K H p ys) ∧ ∀ l, H l = none → Q (.ref l) (upd H l (.lst ys))
theorem SeqD.sq {K : PySem.W.Frag} {H : Hp} {v : V} {xs : List D} (h : SeqD S d xs) (g : GoodS K T H S) (r : Rep K (mm S) H v d) : ∃ q ws, v = .ref q ∧ (SqL K H q ws ∨ SqT K H q ws) ∧ Reps K (mm S) H ws xs := by
  rcases h with h | h
  · obtain ⟨q, ws, e1, e2, e3⟩ := h.lst g r
    exact ⟨q, ws, e1, .inl e2, e3⟩
  · subst h
    obtain ⟨q, ws, e1, e2, e3⟩ := r.tupT
    exact ⟨q, ws, e1, .inr e2, e3⟩
theorem dn_list (hm : X.mg "list" = none) (hg : Gl X "list") (ha : DX X T B a ρ S d S1) (hs : SeqD S1 d xs) (h1 : starEach (a :: []) X.env = (false, eval a X.env) :: starEach [] X.env := by rfl) : DN X T B (.Call (.Name "list" p) [a] [] pos) ρ S xs S1 :=
  de_callTy (r := rListOf X.K) call_list_of (fun _ _ _ _ m ⟨p, ys, e, h, q⟩ => ⟨p, ys, e, h, fun l hl => m _ _ (q l hl)⟩) hg hm (by decide +kernel) (da_cons ha da_nil h1) (fun H vs g r => by
    cases r with
    | cons r1 r2 =>
      cases r2
      obtain ⟨q, ws, e1, e2, e3⟩ := hs.sq g.g r1
      subst e1
      exact ⟨q, ws, rfl, e2, fun l hl => Pt.newL e3 g (Ext.refl _ _) hl⟩) (he := h1)
/-- where a tuple is laid anew -/
theorem Pt.newT {H1 H : Hp} {vs : List V} {ds : List D} {p : Addr} (r1 : Reps X.K (mm S') H1 vs ds) (g1 : Gd X.K T B H1 S') (x1 : Ext (mm S) (mm S') H H1) (hp : H1 p = none) :
    Pt X T B H S (fun d S'' => d = .tup ds ∧ S'' = S') (.ref p) (upd H1 p (.tup vs)) := by
  have x2 : Ext (mm S') (mm S') H1 (upd H1 p (.tup vs)) := Ext.new1 hp
  have np : p ∉ mm S' := fun z => by
    obtain ⟨o, h, _⟩ := g1.g.memM z
    rw [hp] at h; cases h
  exact ⟨_, _, ⟨rfl, rfl⟩, .tup np (.inl upd_same) (r1.ext x2), g1.to x2 (g1.g.new1 hp), x1.trans x2⟩
abbrev rTupOf (K : PySem.W.Frag) : List V → Hp → VK → Prop := fun xs H Q => ∃ p ys, xs = [.ref p] ∧ ((SqL K H p ys ∧ ∀ l, H l = none → Q (.ref l) (upd H l (.tup ys))) ∨ (SqT K H p ys ∧ Q (.ref p) H))
theorem dx_tuple (hm : X.mg "tuple" = none) (hg : Gl X "tuple") (ha : DX X T B a ρ S d S1) (hs : SeqD S1 d xs) (h1 : starEach (a :: []) X.env = (false, eval a X.env) :: starEach [] X.env := by rfl) : DX X T B (.Call (.Name "tuple" p) [a] [] pos) ρ S (.tup xs) S1 :=
  de_callTy (r := rTupOf X.K) call_tuple_of (fun _ _ _ _ m ⟨p, ys, e, h⟩ => ⟨p, ys, e, h.elim (fun ⟨h, q⟩ => .inl ⟨h, fun l hl => m _ _ (q l hl)⟩) fun ⟨h, q⟩ => .inr ⟨h, m _ _ q⟩⟩) hg hm (by decide +kernel) (da_cons ha da_nil h1) (fun H vs g r => by
    cases r with
    | cons r1 r2 =>
      cases r2
      rcases hs with hs | hs
      · obtain ⟨q, ws, e1, e2, e3⟩ := hs.lst g.g r1
        subst e1
        exact ⟨q, ws, rfl, .inl ⟨e2, fun l hl => Pt.newT e3 g (Ext.refl _ _) hl⟩⟩
      · subst hs
        obtain ⟨q, ws, e1, e2, e3⟩ := id r1.tupT
        subst e1
        exact ⟨q, ws, rfl, .inr ⟨e2, Pt.here ⟨rfl, rfl⟩ g r1⟩⟩) (he := h1)
/-! ### items, slices, stores -/
theorem dx_ixL (ha : DX X T B a ρ S d S1) (hb : DX X T B b ρ S1 (.int i) S2) (hv : Vw S2 d (.lst xs)) (hi : atI xs i = some z) (hs : PlainIx b := by exact fun _ _ => rfl) : DX X T B (.Subscript a b pos) ρ S z S2 :=
  dx_bin2 (t := wE X a) (r := rIxL X.K) (pe_ix ix_list pe_w pe_w hs) ha hb (fun H vx vy gd r1 r2 => by
    cases r2
    obtain ⟨q, ws, e1, e2, e3⟩ := hv.lst gd.g r1
    subst e1
    obtain ⟨jj, h1, h2, h3, h4, h5⟩ := atI_get hi
    obtain ⟨w, hw, rw'⟩ := e3.get h2
    refine ⟨q, ws, i, w, rfl, rfl, e2, ?_, Pt.here ⟨rfl, rfl⟩ gd rw'⟩
    unfold atI at hi ⊢
    rw [e3.length]
    cases hx : ixN xs.length i with
    | none => rw [hx] at hi; cases hi
    | some n =>
      obtain ⟨hq, _⟩ := ixN_seq hx
      rw [h1] at hq
      cases hq
      exact hw) (fun _ _ _ _ _ m ⟨p, xs, i, v, e1, e2, e3, e4, q⟩ => ⟨p, xs, i, v, e1, e2, e3, e4, m _ _ q⟩)
theorem dx_ixT (ha : DX X T B a ρ S (.tup xs) S1) (hb : DX X T B b ρ S1 (.int i) S2) (hi : atI xs i = some z) (hs : PlainIx b := by exact fun _ _ => rfl) : DX X T B (.Subscript a b pos) ρ S z S2 :=
  dx_bin2 (t := wE X a) (r := rIxT X.K) (pe_ix ix_tup pe_w pe_w hs) ha hb (fun H vx vy gd r1 r2 => by
    cases r2
    obtain ⟨q, ws, e1, e2, e3⟩ := r1.tupT
    subst e1
    obtain ⟨jj, h1, h2, h3, h4, h5⟩ := atI_get hi
    obtain ⟨w, hw, rw'⟩ := e3.get h2
    refine ⟨q, ws, i, w, rfl, rfl, e2, ?_, Pt.here ⟨rfl, rfl⟩ gd rw'⟩
    unfold atI at hi ⊢
    rw [e3.length]
    cases hx : ixN xs.length i with
    | none => rw [hx] at hi; cases hi
    | some n =>
      obtain ⟨hq, _⟩ := ixN_seq hx
      rw [h1] at hq
      cases hq
      exact hw) (fun _ _ _ _ _ m ⟨p, xs, i, v, e1, e2, e3, e4, q⟩ => ⟨p, xs, i, v, e1, e2, e3, e4, m _ _ q⟩)
theorem dx_ixS {u : Str} {cc : Nat} (ha : DX X T B a ρ S (.str u) S1) (hb : DX X T B b ρ S1 (.int i) S2) (hu : u.length ≤ 100000) (hi : atI u.cps.toList i = some cc) (hs : PlainIx b := by exact fun _ _ => rfl) : DX X T B (.Subscript a b pos) ρ S (.str ⟨#[cc]⟩) S2 :=
  dx_bin2 (t := wE X a) (r := rIxS) (pe_ix ix_str pe_w pe_w hs) ha hb (fun H vx vy gd r1 r2 => by
    cases r1; cases r2
    exact ⟨u, i, cc, rfl, rfl, Nat.le_trans hu (by decide), hi, Pt.here ⟨rfl, rfl⟩ gd (.str _)⟩) (fun _ _ _ _ _ m ⟨p, i, v, e1, e2, e3, e4, q⟩ => ⟨p, i, v, e1, e2, e3, e4, m _ _ q⟩)
/-- xs[i] = e, xs owned -/
theorem ds_setIx {l : Addr} {n k : Nat} {t1 : Pos} (he : DX X T B e ρ S d S1) (ho : DX X T B o ρ S1 (.ref l) S2) (hi : DX X T B c ρ S2 (.int i) S3) (hk : S3[n]? = some (l, .lst xs)) (hx : ixN xs.length i = some k) (kk : PE.nx ρ (S3.set n (l, .lst (xs.set k d))))
    (ha : ∀ v, assign (.Subscript o c t1) X.env v = (do
      let ov ← holding [v] (eval o X.env)
      let iv ← holding [v, ov] (eval c X.env)
      standAt t1
      holding [v, ov, iv] (setItem ov iv v)
      release [v, ov, iv] []) := by intro _; rfl) (hs : swapsWithSole [.Subscript o c t1] e pos.line X.env = pure false := by rfl) (hw : swappedStores [.Subscript o c t1] e X.env = pure none := by rfl)
    (h1 : (assignEach [.Subscript o c t1] X.env).map (·.2) = [assign (.Subscript o c t1) X.env] := by rfl) : DS X T B (.Assign [.Subscript o c t1] e pos) ρ S PE := fun σ H g s =>
  wS_of (ps_asg pe_w (pg_sub pe_w pe_w set_list ha) hs hw h1) (wE_mono (he σ H g s) fun v H1 ⟨d1, T1, ⟨e1, e2⟩, r1, g1, x1⟩ => by
    subst e1; subst e2
    refine wE_mono (ho σ H1 g1 (s.ext x1)) fun v2 H2 ⟨d2, T2, ⟨e3, e4⟩, r2, g2, x2⟩ => ?_
    subst e3; subst e4; cases r2
    refine wE_mono (hi σ H2 g2 (s.ext (x1.trans x2))) fun v3 H3 ⟨d3, T3, ⟨e5, e6⟩, r3, g3, x3⟩ => ?_
    subst e5; subst e6; cases r3
    obtain ⟨ws, h1, h2⟩ := g3.g.own _ (List.mem_of_getElem? hk)
    have r1' := r1.ext (x2.trans x3)
    have xw : Ext (mm T3) (mm T3) H3 (upd H3 l (.lst (ws.set k v))) := by
      have := Ext.write (o := .lst (ws.set k v)) (d := .lst (xs.set k d1)) g3.g hk
      rw [mm_set _ _ _ _ _ hk] at this
      exact this
    have gw := g3.g.write (o := .lst (ws.set k v)) (d := .lst (xs.set k d1)) hk ⟨_, upd_same, (Reps.set r1' k h2).ext xw⟩
    have xw2 := Ext.write (o := .lst (ws.set k v)) (d := .lst (xs.set k d1)) g3.g hk
    exact ⟨l, ws, i, k, rfl, rfl, h1, by rw [h2.length]; exact hx, ρ, _, kk, g3.to xw2 gw, s.ext (((x1.trans x2).trans x3).trans xw2)⟩)
/-- xs.append(e), xs owned -/
theorem ds_append {l : Addr} {n : Nat} (ho : DX X T B o ρ S (.ref l) S1) (he : DX X T B e ρ S1 d S2) (h0 : ∃ ys, (l, D.lst ys) ∈ S1) (hk : S2[n]? = some (l, .lst xs)) (hl : xs.length < 100000) (kk : PE.nx ρ (S2.set n (l, .lst (xs ++ [d]))))
    (hbase : attributeBase o "append" X.env (eval o X.env) = eval o X.env := by rfl)
    (hfew : ((backTo cpos (starEach (e :: []) X.env)).all (fun x => !x.1) && (backToKw cpos (keywordEach [] X.env)).all (fun x => x.1.isSome)
      && decide ((e :: []).length + ([] : List Keyword).length + (if ([] : List Keyword).isEmpty then 0 else 1) < 30)) = true := by rfl)
    (hline : (apos.endLine == cpos.line) = true := by rfl) (h1 : starEach (e :: []) X.env = (false, eval e X.env) :: starEach [] X.env := by rfl) (hplain : (backTo cpos (starEach [] X.env)).any (·.1) = false := by rfl)
    (hs : swapsWith (.Call (.Attribute o "append" apos) [e] [] cpos) none pos.line X.env = pure false := by rfl) : DS X T B (.Expr (.Call (.Attribute o "append" apos) [e] [] cpos) pos) ρ S PE := fun σ H g s =>
  wS_of (ps_expr (pe_bm PySem.F.plainAttrs_list PySem.F.slot_list_append PySem.F.type_list_append mt_append pe_w (pa_cons pe_w pa_nil h1) hbase hfew hline h1 hplain) hs) (wE_mono (ho σ H g s) fun v H1 ⟨d1, T1, ⟨e1, e2⟩, r1, g1, x1⟩ => by
    subst e1; subst e2; cases r1
    obtain ⟨ys, hy⟩ := h0
    obtain ⟨us, hu, _⟩ := g1.g.own _ hy
    refine ⟨.inl ⟨rfl, us, SqL.of hu⟩, wE_mono (he σ H1 g1 (s.ext x1)) fun v2 H2 ⟨d2, T2, ⟨e3, e4⟩, r2, g2, x2⟩ => ?_⟩
    subst e3; subst e4
    obtain ⟨ws, h1, h2⟩ := g2.g.own _ (List.mem_of_getElem? hk)
    have xw : Ext (mm T2) (mm T2) H2 (upd H2 l (.lst (ws ++ [v2]))) := by
      have := Ext.write (o := .lst (ws ++ [v2])) (d := .lst (xs ++ [d2])) g2.g hk
      rw [mm_set _ _ _ _ _ hk] at this
      exact this
    have gw := g2.g.write (o := .lst (ws ++ [v2])) (d := .lst (xs ++ [d2])) hk ⟨_, upd_same, (h2.ext xw).append (.cons (r2.ext xw) .nil)⟩
    have xw2 := Ext.write (o := .lst (ws ++ [v2])) (d := .lst (xs ++ [d2])) g2.g hk
    exact ⟨l, ws, v2, rfl, rfl, h1, by rw [h2.length]; exact Nat.lt_of_lt_of_le hl (by decide), ρ, _, kk, g2.to xw2 gw, s.ext ((x1.trans x2).trans xw2)⟩)
end
end DL
set_option Elab.async false
set_option linter.all false
set_option maxRecDepth 100000
set_option maxHeartbeats 4000000
/-! Generator expressions that are consumed where they stand: all, any, sum. -/
namespace GX
open PySem PySem.Spec PyProof.Rows L2 DL
open Sem (wp)
/-- the generators' table changes -/
theorem inv_gens {X : Cx} {pins : List (Addr × Obj)} {σ : L2.St} {H : Hp} {s : Shared} {g' : Array GenState} (I : Inv X pins σ H s) (hg : AllBare g') : Inv X pins σ H { s with gens := g' } :=
  ⟨I.ok, I.os, hg, I.base, I.loc, I.cell, I.free, I.freeC, I.pin, I.hok, I.len⟩
theorem allBare_set {s : Shared} {g : Nat} {x : GenState} (h : AllBare s.gens) (hx : x.bare = true) : AllBare (s.setGen g x).gens := by
  intro y hy
  obtain ⟨i, hi, e⟩ := Array.mem_iff_getElem.mp hy
  have hi' : i < s.gens.size := by
    have : (s.setGen g x).gens.size = s.gens.size := GenW.setGen_size s g x
    omega
  have e2 : (s.gens.setIfInBounds g x)[i]'(by rw [Array.size_setIfInBounds]; exact hi') = y := e
  rw [Array.getElem_setIfInBounds hi'] at e2
  split at e2
  · rw [← e2]; exact hx
  · rw [← e2]
    exact h _ (Array.getElem_mem _)
/-- a generator expression's loop: its context, what it walks, what is kept: before the i-th turn G i; the i-th item is worth Val i -/
structure Gen (Xg : Cx) where
  elt : Expr
  tg : Expr
  iter : Expr
  scope : Scope
  gpos : Pos
  it : Addr
  fp : List Addr
  tn : Nat → Heap → Prop
  J : It
  n : Nat
  σ : L2.St
  G : Nat → Hp → Prop
  Val : Nat → V → Hp → Prop
  Pn : Nat → List (Addr × Obj) → Prop
def Gen.code {Xg : Cx} (E : Gen Xg) : Expr := .GeneratorExp E.elt [⟨E.tg, E.iter, [], 0⟩] E.scope E.gpos
structure Gen.Ok {Xg : Cx} (E : Gen Xg) : Prop where
  turn : Turn Xg.prog Xg.w Xg.K E.tg E.J E.fp E.it E.tn
  calm : Xg.calm = true
  co : Xg.env.scope.isCoroutine = false
  fpx : ∀ b ∈ E.fp, b ∈ Xg.ex
  pnf : ∀ p ∈ Xg.pn, p.1 ∉ E.fp
  pinf : ∀ i pins, E.Pn i pins → ∀ p ∈ pins, p.1 ∉ E.fp
  xe : Xg.xe = fun _ _ => False
  step : ∀ i H, i < E.n → E.G i H → E.J.go i H ∧ ∀ x H', E.J.yld i H x H' → wG Xg E.tg x E.σ H' fun σ2 H2 => (∀ (j : Nat) v, E.σ[j]? = some (some v) → σ2[j]? = some (some v)) ∧ wE Xg E.elt σ2 H2 fun y H3 => E.Val i y H3 ∧ E.G (i + 1) H3
  stop : ∀ H, E.G E.n H → E.J.stop E.n H
/-- asleep ahead of the i-th turn; the pins as of turn j -/
def Gen.Sus {Xg : Cx} (E : Gen Xg) (i : Nat) (s : Shared) : Prop := ∃ pins H, E.Pn i pins ∧ Inv Xg pins E.σ H s ∧ E.tn i s.heap ∧ (∀ b ∈ E.fp, H b = none) ∧ E.G i H
/-- it has handed out the i-th item -/
def Gen.Out {Xg : Cx} (E : Gen Xg) (i : Nat) (v : Value) (s : Shared) : Prop := ∃ pins H x, E.Pn i pins ∧ Inv Xg pins E.σ H s ∧ E.tn (i + 1) s.heap ∧ (∀ b ∈ E.fp, H b = none) ∧ RelV x v ∧ E.Val i x H ∧ E.G (i + 1) H
def Gen.Y {Xg : Cx} (E : Gen Xg) : Protocol := fun m _ v s kap => ∃ i, m + (i + 1) = E.n ∧ E.Out i v s ∧ ∀ s'', E.Sus (i + 1) s'' → kap (.send .none) s''
def Gen.End {Xg : Cx} (E : Gen Xg) (s : Shared) : Prop := ∃ pins H, E.Pn E.n pins ∧ Inv Xg pins E.σ H s ∧ E.G E.n H
def Gen.R {Xg : Cx} (E : Gen Xg) : GenEnd := fun n _ r s => r = .ok .next ∧ n = 0 ∧ E.End s
section
variable {Xg : Cx} {E : Gen Xg} {A : Around}
theorem Gen.Ok.fpok (O : E.Ok) {i : Nat} {pins : List (Addr × Obj)} {H : Hp} {s : Shared} (hp : E.Pn i pins) (I : Inv Xg pins E.σ H s) (h : ∀ b ∈ E.fp, H b = none) : ∀ b ∈ E.fp, FpOk Xg pins H b := fun b hb =>
  ⟨h b hb, (I.ok.exf b (O.fpx b hb)).1, I.ok.exfs b (O.fpx b hb), .inl (O.fpx b hb), (I.ok.exf b (O.fpx b hb)).2, fun p hp' z => by
    rcases List.mem_append.mp hp' with q | q
    · exact O.pnf p q (by rw [z]; exact hb)
    · exact O.pinf i pins hp p q (by rw [z]; exact hb)⟩
theorem seg_loop (O : E.Ok) (hA : A.over (.compLoop E.code 0 (.ref E.it) .none Xg.env) [] = Xg.A) : ∀ (k i : Nat) (s₀ s : Shared), E.n - i = k → i ≤ E.n → E.Sus i s →
    Seg (model Xg.prog Xg.w) A E.R E.Y (E.n - i) s₀ (.compLoop E.code 0 (.ref E.it) .none Xg.env) ((model Xg.prog Xg.w).den (.compLoop E.code 0 (.ref E.it) .none Xg.env)) [] s := by
  intro k
  induction k with
  | zero =>
    intro i s₀ s hk hi ⟨pins, H, hp, I, st, hf, hG⟩
    have hin : i = E.n := by omega
    subst hin
    show Seg _ A _ _ _ s₀ _ ((compTurn (.GeneratorExp E.elt [⟨E.tg, E.iter, [], 0⟩] E.scope E.gpos) 0 (.ref E.it) .none Xg.env).onRaise (leaving Xg.env)) [] s
    rw [compTurn_gen, Sem.onRaise_eq_wrap]
    refine seg_bind_wrap (wpAny_standAt ?_)
    refine seg_bind_wrap ?_
    rw [hA]
    refine wpAny_mono (O.turn.done Xg rfl rfl rfl O.calm E.n pins s E.σ H (fun _ _ => False) I (O.fpok hp I hf) st (O.stop H hG)) (fun r s' ⟨hr, I'⟩ => ?_) fun _ _ (z : False) => z.elim
    subst hr
    exact seg_end (.ok .next) ⟨rfl, Nat.sub_self _, pins, H, hp, I', hG⟩
  | succ k ih =>
    intro i s₀ s hk hi ⟨pins, H, hp, I, st, hf, hG⟩
    have hlt : i < E.n := by omega
    obtain ⟨go, hstep⟩ := O.step i H hlt hG
    show Seg _ A _ _ _ s₀ _ ((compTurn (.GeneratorExp E.elt [⟨E.tg, E.iter, [], 0⟩] E.scope E.gpos) 0 (.ref E.it) .none Xg.env).onRaise (leaving Xg.env)) [] s
    rw [compTurn_gen, Sem.onRaise_eq_wrap]
    refine seg_bind_wrap (wpAny_standAt ?_)
    refine seg_bind_wrap ?_
    rw [hA]
    refine wpAny_mono (O.turn.item Xg rfl rfl rfl O.calm i pins s E.σ H (fun _ _ => False) I (O.fpok hp I hf) st go) (fun r s1 ⟨u, hr, h1⟩ => ?_) fun _ _ (z : False) => z.elim
    subst hr
    refine seg_bind_wrap ?_
    rw [hA]
    refine wpAny_mono h1 (fun _ s2 ⟨x, H2, I2, r2, y2, st2, f2⟩ => ?_) fun _ _ (z : False) => z.elim
    have I2' := I2.pinned (O.fpok hp I2 f2) (O.turn.obj _ _ st2)
    refine seg_bind_wrap ?_
    rw [hA]
    refine wpAny_mono ((hstep x H2 y2).run _ s2 u I2' r2) (fun _ s3 ⟨σ3, H3, I3, hσ, hE⟩ => ?_) fun e s' z => by
      rw [O.xe] at z
      exact False.elim z
    simp only [List.forIn_nil]
    refine seg_bind_wrap (wpAny_pure ?_)
    simp only [if_true]
    have hy : ∀ v, yieldOut Xg.env v = yieldValue v := fun v => by simp only [yieldOut, O.co, Bool.false_eq_true, if_false]
    simp only [hy]
    rw [Sem.bind_eq_wrap', Sem.bind_eq_wrap', Sem.wrap_wrap, Sem.wrap_wrap]
    refine seg_wrap ?_
    rw [hA]
    refine wpAny_mono (hE.run _ s3 I3) (fun y s4 ⟨yv, H4, I4, r4, hv, hG4⟩ => ?_) fun e s' z => by
      rw [O.xe] at z
      exact False.elim z
    have pin4 : ∀ b ∈ E.fp, ∀ o, s2.heap.get? b = some o → s4.heap.get? b = some o ∧ H4 b = none := fun b hb o e =>
      let z := I4.pin (b, o) (List.mem_append_right _ (List.mem_append_right _ (mem_pinsAt hb e)))
      ⟨z.1, z.2.1⟩
    have st4 : E.tn (i + 1) s4.heap := O.turn.keep _ _ _ st2 fun b hb o e => (pin4 b hb o e).1
    have f4 : ∀ b ∈ E.fp, H4 b = none := fun b hb => by
      obtain ⟨o, e, _⟩ := O.turn.obj _ _ st2 b hb
      exact (pin4 b hb o e).2
    have I4' : Inv Xg pins E.σ H4 s4 := I4.unpinned.weak (by rw [I.len, I4.len]) hσ
    have hni : E.n - i = (E.n - (i + 1)) + 1 := by omega
    rw [hni]
    refine seg_at (seg_yield rfl rfl rfl ⟨i, by omega, ⟨pins, H4, yv, hp, I4', st4, f4, r4, hv, hG4⟩, fun s'' hs => ?_⟩)
    exact seg_again rfl (ih (i + 1) s'' s'' (by omega) hlt hs)
theorem seg_start (O : E.Ok) (hA : A.over (.compLoop E.code 0 (.ref E.it) .none Xg.env) [] = Xg.A) (hA' : A.over (.compStart E.code 0 (.ref E.it) .none Xg.env) [] = Xg.A) (s₀ s : Shared) (h : E.Sus 0 s) :
    Seg (model Xg.prog Xg.w) A E.R E.Y (E.n - 0) s₀ (.compStart E.code 0 (.ref E.it) .none Xg.env) ((model Xg.prog Xg.w).den (.compStart E.code 0 (.ref E.it) .none Xg.env)) [] s := by
  have loop := seg_loop O hA (E.n - 0) 0 s₀ s rfl (Nat.zero_le _) h
  obtain ⟨pins, H, hp, I, st, hf, hG⟩ := h
  show Seg _ A _ _ _ s₀ _ ((compStart (.GeneratorExp E.elt [⟨E.tg, E.iter, [], 0⟩] E.scope E.gpos) 0 (.ref E.it) .none Xg.env).onRaise (leaving Xg.env)) [] s
  unfold compStart
  rw [Sem.onRaise_eq_wrap]
  show Seg _ A _ _ _ s₀ _ ((ask >>= _).wrap _ _ _ _) [] s
  refine seg_bind_wrap (wpAny_askSetting ?_)
  split
  · exact seg_again rfl loop
  · first
      | exact seg_bind_wrap (wpAny_rule (seg_bind_wrap (wpAny_standAt (seg_bind_wrap (O.turn.self _ 0 s _ _ st (seg_again rfl loop))))))
      | (refine seg_bind_wrap (wpAny_rule ?_); show Seg _ A _ _ _ s₀ _ ((standAt E.iter.pos >>= _).wrap _ _ _ _) [] s; exact seg_bind_wrap (wpAny_standAt (seg_bind_wrap (O.turn.self _ 0 s _ _ st (seg_again rfl loop)))))
theorem Gen.Sus.gens {i : Nat} {s : Shared} {g' : Array GenState} (h : E.Sus i s) (hg : AllBare g') : E.Sus i { s with gens := g' } :=
  let ⟨pins, H, hp, I, st, hf, hG⟩ := h; ⟨pins, H, hp, inv_gens I hg, st, hf, hG⟩
theorem Gen.Sus.bare {i : Nat} {s : Shared} (h : E.Sus i s) : AllBare s.gens := let ⟨_, _, _, I, _⟩ := h; I.bare
theorem Gen.Out.gens {i : Nat} {v : Value} {s : Shared} {g' : Array GenState} (h : E.Out i v s) (hg : AllBare g') : E.Out i v { s with gens := g' } :=
  let ⟨pins, H, x, hp, I, r⟩ := h; ⟨pins, H, x, hp, inv_gens I hg, r⟩
theorem Gen.Out.bare {i : Nat} {v : Value} {s : Shared} (h : E.Out i v s) : AllBare s.gens := let ⟨_, _, _, _, I, _⟩ := h; I.bare
/-- the generator g at a sleeps ahead of its i-th turn, to be woken in A -/
def Gen.Wake {Xg : Cx} (E : Gen Xg) (A : Around) (g i : Nat) (gens : Array GenState) : Prop := ∃ gs, gens[g]? = some gs ∧ ∀ s'', E.Sus i s'' → gs.Goes (model Xg.prog Xg.w) A E.R E.Y (E.n - i) (.send .none) s''
section
variable {A0 : Around} {E0 : Value → Shared → Prop} {g i : Nat} {a : Addr} {go : Obj} {nm qn : Value} {s : Shared} {Q : Option Value → Shared → Prop}
theorem gen_at (hpn : (a, go) ∈ Xg.pn) (h : E.Sus i s) : s.heap.get? a = some go := let ⟨_, _, _, I, _⟩ := h; (I.pin _ (List.mem_append_left _ hpn)).1
theorem next_item (hh : A0.handled = none) (hroom : A0.depth < recursionLimit) (hpn : (a, go) ∈ Xg.pn) (hgo : ∀ h : Heap, h.get? a = some go → h.IsGen a g) (hs : E.Sus i s) (hw : E.Wake A0.in1 g i s.gens) (hi : i < E.n)
    (hQ : ∀ v s', E.Out i v s' → E.Wake A0.in1 g (i + 1) s'.gens → Q (some v) s') : wpAny (model Xg.prog Xg.w) A0 (pyNext (.ref a)) Q E0 s := by
  obtain ⟨gs, hgs, hG⟩ := hw
  have hlt : g < s.gens.size := by
    rcases Nat.lt_or_ge g s.gens.size with h' | h'
    · exact h'
    · rw [Array.getElem?_eq_none h'] at hgs; cases hgs
  refine GenW.wpAny_gsz (n := g + 1) hlt ?_
  have hl : s.heap.NoLimit := let ⟨_, _, _, I, _⟩ := hs; I.nolimit
  have hs1 : E.Sus i (s.setGen g .running) := hs.gens (allBare_set hs.bare rfl)
  obtain ⟨m, hm⟩ : ∃ m, E.n - i = m + 1 := ⟨E.n - i - 1, by omega⟩
  have hG1 := hG _ hs1
  rw [hm] at hG1
  refine wpAny_pyNext_genexpQ (P := fun n _ s => n = 0 ∧ E.End s) (n := m + 1) hh hl hroom (hgo _ (gen_at hpn hs)) hgs hG1 (fun v s₁ gs' hb hv => ?_) fun s₁ hp h' hk => ?_
  · obtain ⟨i', e, ho, hkap⟩ := hv
    have ei : i' = i := by omega
    subst ei
    intro hsz
    have hsz' : g < s₁.gens.size := by
      have : (s₁.setGen g gs').gens.size = s₁.gens.size := GenW.setGen_size s₁ g gs'
      omega
    refine hQ v _ (ho.gens (allBare_set ho.bare hb)) ⟨gs', ?_, fun s'' h'' => ?_⟩
    · show (s₁.gens.setIfInBounds g gs')[g]? = _
      rw [Array.getElem?_setIfInBounds_self_of_lt hsz']
    · have em : E.n - (i' + 1) = m := by omega
      rw [em]
      exact hkap s'' h''
  · exact absurd hp.1 (Nat.succ_ne_zero m)
theorem next_done (hh : A0.handled = none) (hroom : A0.depth < recursionLimit) (hpn : (a, go) ∈ Xg.pn) (hgo : ∀ h : Heap, h.get? a = some go → h.IsGen a g) (hs : E.Sus E.n s) (hw : E.Wake A0.in1 g E.n s.gens)
    (hne : ∀ i v s, E.Out i v s → ∃ s'', E.Sus (i + 1) s'') (hQ : ∀ s', E.End s' → Q none s') : wpAny (model Xg.prog Xg.w) A0 (pyNext (.ref a)) Q E0 s := by
  obtain ⟨gs, hgs, hG⟩ := hw
  have hl : s.heap.NoLimit := let ⟨_, _, _, I, _⟩ := hs; I.nolimit
  have hs1 : E.Sus E.n (s.setGen g .running) := hs.gens (allBare_set hs.bare rfl)
  have hG1 := hG _ hs1
  rw [Nat.sub_self] at hG1
  refine wpAny_pyNext_genexpQ (P := fun n _ s => n = 0 ∧ E.End s) (n := 0) hh hl hroom (hgo _ (gen_at hpn hs)) hgs hG1 (fun v s₁ gs' hb hv => ?_) fun s₁ hp h' hk => ?_
  · obtain ⟨i', e, ho, hkap⟩ := hv
    obtain ⟨s'', h''⟩ := hne _ _ _ ho
    exact False.elim (hkap s'' h'')
  · obtain ⟨_, pins, H, hp, I, hG⟩ := hp
    refine hQ _ ⟨pins, H, hp, ?_, hG⟩
    have I2 := inv_gens I (allBare_set (g := g) (x := .finished) I.bare rfl)
    exact I2.kept (t' := s₁.toks) fun b o e => hk b o e
end
/-! ### what drains it -/
/-- the i-th item is true: tr i -/
def Truth {Xg : Cx} (E : Gen Xg) (tr : Nat → Bool) : Prop := ∀ i x H, E.Val i x H → x = .bl (tr i) ∨ ∃ k : Int, x = .int k ∧ tr i = (k != 0)
theorem truthy_of {tr : Nat → Bool} {i : Nat} {v : Value} {s : Shared} {A1 : Around} {Q : Bool → Shared → Prop} {E1 : Value → Shared → Prop} (ht : Truth E tr) (h : E.Out i v s) (q : Q (tr i) s) : wpAny (model Xg.prog Xg.w) A1 (truthy v) Q E1 s := by
  obtain ⟨pins, H, x, hp, I, st, hf, rv, hv, hG⟩ := h
  rcases ht i x H hv with e | ⟨k, e, ek⟩
  · subst e
    cases rv
    exact wpAny_truthy_bool q
  · subst e
    obtain ⟨t, rfl⟩ := rv
    refine PySem.P.truthy_int ?_
    rw [← ek]
    exact q
theorem Gen.Out.sus {i : Nat} {v : Value} {s : Shared} (hP : ∀ i j pins, E.Pn i pins → E.Pn j pins) (h : E.Out i v s) : E.Sus (i + 1) s := by
  obtain ⟨pins, H, x, hp, I, st, hf, rv, hv, hG⟩ := h
  exact ⟨pins, H, hP _ _ _ hp, I, st, hf, hG⟩
section
variable {A0 : Around} {g : Nat} {a : Addr} {go : Obj} {R : Result → Shared → Prop} {tr : Nat → Bool}
theorem code_all (hh : A0.handled = none) (hroom : A0.depth < recursionLimit) (hpn : (a, go) ∈ Xg.pn) (hgo : ∀ h : Heap, h.get? a = some go → h.IsGen a g) (hP : ∀ i j pins, E.Pn i pins → E.Pn j pins) (ht : Truth E tr) : ∀ (k i : Nat) (s : Shared), E.n - i = k → i ≤ E.n → E.Sus i s → E.Wake A0.in1.in1 g i s.gens →
    (∀ s', (E.End s' ∨ ∃ j v, E.Out j v s') → R (.ok (.ret (.bool (((List.range E.n).drop i).all tr)))) s') → codeAny (model Xg.prog Xg.w) A0 (.builtin "all.loop" ⟨[.ref a], []⟩) R s := by
  intro k
  induction k with
  | zero =>
    intro i s hk hi hst hw hR
    have hin : i = E.n := by omega
    subst hin
    refine codeAny_builtin F.entry_all_loop ?_
    rw [Around.under_plainId F.plain_all_loop _]
    show wpAny _ A0.in1 (pyNext (.ref a) >>= _) _ _ s
    refine wpAny_bind (next_done hh hroom hpn hgo hst hw (fun i v s h => ⟨s, h.sus hP⟩) fun s' hm => ?_)
    refine wpAny_bind (wpAny_rule (wpAny_pure ?_))
    have := hR s' (.inl hm)
    rw [List.drop_of_length_le (by simp)] at this
    exact this
  | succ k ih =>
    intro i s hk hi hst hw hR
    have hlt : i < E.n := by omega
    have hd : (List.range E.n).drop i = i :: (List.range E.n).drop (i + 1) := by
      rw [List.drop_eq_getElem_cons (by simpa using hlt)]; simp
    refine codeAny_builtin F.entry_all_loop ?_
    rw [Around.under_plainId F.plain_all_loop _]
    show wpAny _ A0.in1 (pyNext (.ref a) >>= _) _ _ s
    refine wpAny_bind (next_item hh hroom hpn hgo hst hw hlt fun v s' ho hw' => ?_)
    refine wpAny_bind (wpAny_holding (truthy_of ht ho ?_))
    refine wpAny_bind (wpAny_letGo ?_)
    cases hb : tr i with
    | true =>
      simp only [if_true]
      refine wpAny_pure ⟨plainId_quiet F.plain_all_loop _, ih (i + 1) _ (by omega) hlt (ho.sus hP) hw' fun s'' hm' => ?_⟩
      have := hR s'' hm'
      rw [hd, List.all_cons, hb, Bool.true_and] at this
      exact this
    | false =>
      simp only [Bool.false_eq_true, if_false]
      refine wpAny_bind (wpAny_rule (wpAny_pure ?_))
      have := hR s' (.inr ⟨i, v, ho⟩)
      rw [hd, List.all_cons, hb, Bool.false_and] at this
      exact this
theorem code_any (hh : A0.handled = none) (hroom : A0.depth < recursionLimit) (hpn : (a, go) ∈ Xg.pn) (hgo : ∀ h : Heap, h.get? a = some go → h.IsGen a g) (hP : ∀ i j pins, E.Pn i pins → E.Pn j pins) (ht : Truth E tr) : ∀ (k i : Nat) (s : Shared), E.n - i = k → i ≤ E.n → E.Sus i s → E.Wake A0.in1.in1 g i s.gens →
    (∀ s', (E.End s' ∨ ∃ j v, E.Out j v s') → R (.ok (.ret (.bool (((List.range E.n).drop i).any tr)))) s') → codeAny (model Xg.prog Xg.w) A0 (.builtin "any.loop" ⟨[.ref a], []⟩) R s := by
  intro k
  induction k with
  | zero =>
    intro i s hk hi hst hw hR
    have hin : i = E.n := by omega
    subst hin
    refine codeAny_builtin F.entry_any_loop ?_
    rw [Around.under_plainId F.plain_any_loop _]
    show wpAny _ A0.in1 (pyNext (.ref a) >>= _) _ _ s
    refine wpAny_bind (next_done hh hroom hpn hgo hst hw (fun i v s h => ⟨s, h.sus hP⟩) fun s' hm => ?_)
    refine wpAny_bind (wpAny_rule (wpAny_pure ?_))
    have := hR s' (.inl hm)
    rw [List.drop_of_length_le (by simp)] at this
    exact this
  | succ k ih =>
    intro i s hk hi hst hw hR
    have hlt : i < E.n := by omega
    have hd : (List.range E.n).drop i = i :: (List.range E.n).drop (i + 1) := by
      rw [List.drop_eq_getElem_cons (by simpa using hlt)]; simp
    refine codeAny_builtin F.entry_any_loop ?_
    rw [Around.under_plainId F.plain_any_loop _]
    show wpAny _ A0.in1 (pyNext (.ref a) >>= _) _ _ s
    refine wpAny_bind (next_item hh hroom hpn hgo hst hw hlt fun v s' ho hw' => ?_)
    refine wpAny_bind (wpAny_holding (truthy_of ht ho ?_))
    refine wpAny_bind (wpAny_letGo ?_)
    cases hb : tr i with
    | false =>
      simp only [Bool.false_eq_true, if_false]
      refine wpAny_pure ⟨plainId_quiet F.plain_any_loop _, ih (i + 1) _ (by omega) hlt (ho.sus hP) hw' fun s'' hm' => ?_⟩
      have := hR s'' hm'
      rw [hd, List.any_cons, hb, Bool.false_or] at this
      exact this
    | true =>
      simp only [if_true]
      refine wpAny_bind (wpAny_rule (wpAny_pure ?_))
      have := hR s' (.inr ⟨i, v, ho⟩)
      rw [hd, List.any_cons, hb, Bool.true_or] at this
      exact this
end
end
end GX
set_option Elab.async false
set_option linter.all false
set_option maxRecDepth 100000
set_option maxHeartbeats 4000000
namespace GX
open PySem PySem.Spec PyProof.Rows L2 DL
open Sem (wp)
/-- the context of a generator expression's frame, made at s -/
abbrev genX (X : Cx) (s : Shared) (H : Hp) (genv : Env) (fp : List Addr) (A' : Around) (pn : List (Addr × Obj)) : Cx :=
  { X with s_0 := s, H_0 := H, env := genv, A := A', outer := X.stack, stack := genv :: X.stack, ex := fp, fn := fun _ => false, pn := pn, xe := fun _ _ => False }
/-- its frame -/
abbrev gEnv (X : Cx) (s : Shared) (scope : Scope) (code : Value) : Env := genEnv scope (cloFrom X.env.cells scope.names []) s.heap.objs.size code builtinsNs X.env
section
variable {X : Cx} {pins : List (Addr × Obj)} {σ : L2.St} {H : Hp} {s : Shared}
theorem gen_start {scope : Scope} {own : List (Str × Nat)} {fp : List Addr} {code : Value} {A' : Around} {h' : Heap} {m0 : Str → Option Value} {fo go : Obj} {gs : GenState} {tk : Nat} (I : Inv X pins σ H s) (ok : BlkOk X.N X.env.scope scope own) (hN : X.N.Nodup) (hcell : ∀ y ∈ scope.names, y.2 ≠ .cell)
    (hfp : ∀ b ∈ fp, FpOk X pins H b ∧ b < s.heap.objs.size) (hn : h'.Ns s.heap.objs.size m0) (sb : Heap.SameBut s.heap.objs.size (s.heap.push fo) h') (hA : A'.handled = none)
    (hfr : A'.frames = some (gEnv X s scope code :: X.stack)) (hgs : gs.bare = true) (hgo : ∀ v, go.data ≠ .cell v) (hgf : go.isFreed = false) :
    Inv (genX X s H (gEnv X s scope code) fp A' [(h'.objs.size, go)]) [] (L2.wipe σ (own.map (·.2))) H { s with heap := h'.push go, gens := s.gens.push gs, toks := tk } := by
  have hfree : ∀ y ∈ scope.names, y.2 = .free → ∃ c, X.env.cells.lookup y.1 = some c := fun y hy e => by
    rcases ok.free y hy e with k | k
    · exact I.ok.has _ (.inl k)
    · exact I.ok.has _ (.inr k)
  have hsz : h'.objs.size = s.heap.objs.size + 1 := by rw [sb.1, Heap.size_push]
  have kp0 : ∀ b o, s.heap.get? b = some o → h'.get? b = some o := fun b o e => sb.extBut b o (Nat.ne_of_lt (Heap.lt_size e)) (Heap.get?_push_of_some _ e)
  have kp : ∀ b o, s.heap.get? b = some o → (h'.push go).get? b = some o := fun b o e => Heap.get?_push_of_some _ (kp0 b o e)
  generalize hcenv : gEnv X s scope code = cenv at hfr ⊢
  have hL : cenv.locals = s.heap.objs.size := by rw [← hcenv]; rfl
  have hcl : cenv.cells = cloFrom X.env.cells scope.names [] := by rw [← hcenv]; rfl
  have hsc : cenv.scope = scope := by rw [← hcenv]; rfl
  have cm : ∀ {y c}, (y, c) ∈ cloFrom X.env.cells scope.names [] → X.env.cells.lookup y = some c ∧ c < s.heap.objs.size := fun {y c} hm => by
    rcases cloFrom_mem hm with hm | ⟨h1, rfl⟩
    · cases hm
    · obtain ⟨c, hc⟩ := hfree _ h1 rfl
      rw [hc]
      obtain ⟨w, z⟩ := I.cell _ _ hc
      exact ⟨rfl, z.lt⟩
  have mem : ∀ {y c}, cenv.cells.lookup y = some c → X.env.cells.lookup y = some c ∧ c < s.heap.objs.size := fun {y c} e => by
    rw [hcl] at e
    exact cm (PySem.mem_of_lookup e)
  have look : ∀ {y}, scope.names.lookup y = some .free → ∃ c, cenv.cells.lookup y = some c ∧ X.env.cells.lookup y = some c := fun {y} hl => by
    have hy : (y, NameKind.free) ∈ scope.names := PySem.mem_of_lookup hl
    obtain ⟨c', e'⟩ := mem_lookup (cloFrom_has (cells := X.env.cells) (acc := []) hy)
    rw [← hcl] at e'
    exact ⟨c', e', (mem e').1⟩
  have okB : (genX X s H cenv fp A' [(h'.objs.size, go)]).Ok := by
    refine ⟨I.ok.mod, by show cenv.scope.kind = _; rw [hsc]; exact ok.kind, by show cenv.globals = _; rw [← hcenv]; exact I.ok.glob, by show cenv.builtins = _; rw [← hcenv]; rfl, by show s.heap.objs.size ≤ cenv.locals; rw [hL]; exact Nat.le_refl _,
      fun y z c e1 e2 => I.ok.inj y z c (mem e1).1 (mem e2).1, fun y hy => ?_, fun y c z e => ?_, fun _ => hA, hfr, .inr ⟨rfl, by show cenv.frame = some cenv.locals; rw [← hcenv]; rfl⟩, fun b hb => ⟨?_, fun y c e z => ?_⟩, I.bs, Nat.le_trans I.ok.bsz I.sz, fun b o e hb => ?_, fun b hb z => ?_, I.stack, I.stkFree⟩
    · show ∃ c, cenv.cells.lookup y = some c
      have hy : scope.names.lookup y = some .cell ∨ scope.names.lookup y = some .free := by
        have hy : cenv.scope.names.lookup y = some .cell ∨ cenv.scope.names.lookup y = some .free := hy
        rw [hsc] at hy
        exact hy
      rcases hy with hy | hy
      · exact absurd rfl (hcell _ (PySem.mem_of_lookup hy))
      · obtain ⟨c, h1, _⟩ := look hy
        exact ⟨c, h1⟩
    · exact absurd (show false = true from z) (by decide)
    · show b ≠ cenv.locals
      rw [hL]; exact Nat.ne_of_lt (hfp b hb).2
    · have e : cenv.cells.lookup y = some c := e
      exact (hfp b hb).1.2.2.2.2.1 y c (mem e).1 z
    · rcases (hfp b hb).1.2.2.2.1 with z | z
      · exact I.ok.noex b o e z
      · exact absurd (Nat.lt_of_lt_of_le (Heap.lt_size e) (Nat.le_trans I.ok.bsz z)) (Nat.lt_irrefl _)
    · rcases List.mem_cons.mp (I.stkSub b z) with z | z
      · exact (hfp b hb).1.2.1 z
      · exact (hfp b hb).1.2.2.1 z
  refine ⟨okB, rfl, I.bare.push hgs, Un.kept kp, ⟨m0, ?_, fun i y av e1 e2 e3 => ?_⟩, fun y c e => ?_, ?_, fun y c e => ?_, fun p hp => ?_, I.hok.kept kp, by rw [wipe_length]; exact I.len⟩
  · show Heap.Ns _ cenv.locals _
    rw [hL]
    exact hn.push _
  · obtain ⟨e2, hne⟩ := wipe_some e2
    have e3 : Vis scope y := by
      have e3 : Vis cenv.scope y := e3
      rw [hsc] at e3
      exact e3
    have hfr : scope.names.lookup y = some .free := by
      rcases e3 with e3 | e3 | e3
      · rcases ok.own _ (PySem.mem_of_lookup e3) (.inl rfl) with e' | e'
        · obtain ⟨p, hp, hpy⟩ := List.mem_map.mp e'
          have e4 := ok.ix p hp
          have hpy : p.1 = y := hpy
          rw [hpy] at e4
          exact absurd (List.mem_map.mpr ⟨p, hp, nodup_ix hN e4 e1⟩) hne
        · exact absurd (List.mem_of_getElem? e1) e'
      · exact absurd rfl (hcell _ (PySem.mem_of_lookup e3))
      · exact e3
    obtain ⟨m, hn', hl⟩ := I.loc
    have hvis : Vis X.env.scope y := (ok.free _ (PySem.mem_of_lookup hfr) rfl).elim (fun k => .inr (.inl k)) (fun k => .inr (.inr k))
    obtain ⟨w, r, q⟩ := hl i y av e1 e2 hvis
    refine ⟨w, r, .inr ⟨.inr (by show cenv.scope.names.lookup y = _; rw [hsc]; exact hfr), ?_⟩⟩
    obtain ⟨c, h1, h2⟩ := look hfr
    rcases q with ⟨k, _⟩ | ⟨_, c', e', z⟩
    · have k : X.env.scope.names.lookup y = some .local := k
      rcases ok.free _ (PySem.mem_of_lookup hfr) rfl with k' | k' <;> rw [show X.env.scope.names.lookup y = _ from k'] at k <;> cases k
    · rw [h2] at e'; cases e'
      exact ⟨c, h1, z.keeps kp⟩
  · have e : cenv.cells.lookup y = some c := e
    obtain ⟨w, z⟩ := I.cell y c (mem e).1
    exact ⟨w, z.keeps kp⟩
  · show H cenv.locals = none
    rw [hL]; exact I.hok.fresh (Nat.le_refl _)
  · have e : cenv.cells.lookup y = some c := e
    exact I.freeC y c (mem e).1
  · have hp : p ∈ [(h'.objs.size, go)] ++ ([] : List (Addr × Obj)) := hp
    rw [List.append_nil] at hp
    rw [List.mem_singleton.mp hp]
    refine ⟨Heap.get?_push_size _ hgf, I.hok.fresh (by rw [hsz]; exact Nat.le_succ _), ?_, ?_, hgo⟩
    · show h'.objs.size ≠ cenv.locals
      rw [hL, hsz]; exact Nat.succ_ne_self _
    · intro hb
      have hb : h'.objs.size ∈ frs X.stack := hb
      have h2 := I.stkSub _ hb
      rcases List.mem_cons.mp h2 with z | z
      · have h3 : h'.objs.size < s.heap.objs.size := by rw [z]; exact I.lt
        rw [hsz] at h3
        exact Nat.lt_irrefl _ (Nat.lt_of_succ_lt h3)
      · exact I.nofs (a := h'.objs.size) (by rw [hsz]; exact Nat.le_succ _) z
/-- the around of the generator's code, drained by a built-in that stands in A -/
def gA (A : Around) (genv : Env) : Around := { A.in1.in1 with depth := A.depth + 1, frames := A.frames.map (genv :: ·), units := A.units + 5 }
theorem gA_over {A : Around} {genv : Env} {c : Code} (hw : c.weight = 1) (hu : c.cUnits = 3) (he : c.envs = [genv]) (hg : c.guards = []) : A.in1.in1.over c [] = gA A genv := by
  unfold Around.over gA
  have e1 : frameCount (([] : List Frame).map Frame.where_) = 0 := rfl
  have e2 : unitsOf (([] : List Frame).map Frame.where_) = 0 := rfl
  have e3 : envsOf (([] : List Frame).map Frame.where_) = [] := rfl
  have e4 : guardsOf (([] : List Frame).map Frame.where_) = [] := rfl
  rw [hw, hu, he, hg, e1, e2, e3, e4]
  rfl
theorem gA_loop {A : Around} {genv : Env} {elt tg iter : Expr} {scope : Scope} {gpos : Pos} {it : Value} : A.in1.in1.over (.compLoop (.GeneratorExp elt [⟨tg, iter, [], 0⟩] scope gpos) 0 it .none genv) [] = gA A genv := gA_over rfl rfl rfl rfl
theorem gA_start {A : Around} {genv : Env} {elt tg iter : Expr} {scope : Scope} {gpos : Pos} {it : Value} : A.in1.in1.over (.compStart (.GeneratorExp elt [⟨tg, iter, [], 0⟩] scope gpos) 0 it .none genv) [] = gA A genv := gA_over rfl rfl rfl rfl
theorem gA_room {A : Around} {genv : Env} {k : Nat} (r : Room (k + 1) A) : Room k (gA A genv) :=
  ⟨r.hd, by have := r.dp; show A.depth + 1 + 3 * k + 5 < _; omega, by have := r.un; show A.units + 5 + 16 * k + 200 < _; omega⟩
/-- a generator that has been made: its table told, its parts -/
structure Made (X : Cx) (pins : List (Addr × Obj)) (σ : L2.St) (P : Addr) (elt tg iter : Expr) (scope : Scope) (own : List (Str × Nat)) (gpos : Pos) (it : Addr) (fp : List Addr) (tn : Nat → Heap → Prop) (J : It) (H1 H2 : Hp) (s4 : Shared) (code : Value) (a : Addr) (go : Obj) (g : Nat) (s5 : Shared) : Prop where
  tab : GxR.Tabbed P H1 H2
  I4 : Inv X pins σ H2 s4
  hfp : ∀ b ∈ fp, FpOk X pins H2 b
  turn : Turn X.prog X.w X.K tg J fp it tn
  tn0 : tn 0 s5.heap
  I5 : Inv (genX X s4 H2 (gEnv X s4 scope code) fp (gA X.A (gEnv X s4 scope code)) [(a, go)]) [] (L2.wipe σ (own.map (·.2))) H2 s5
  isg : ∀ h : Heap, h.get? a = some go → h.IsGen a g
  gens : s5.gens[g]? = some (.fresh (.compStart (.GeneratorExp elt [⟨tg, iter, [], 0⟩] scope gpos) 0 (.ref it) .none (gEnv X s4 scope code)))
  an : ∀ b ∈ fp, a ≠ b
theorem gen_make {c P : Addr} {elt tg iter : Expr} {gpos : Pos} {scope : Scope} {own : List (Str × Nat)} {k : Nat} {Q' : Value → Shared → Prop} {RR : It → Hp → Prop}
    (hr : Room k X.A) (TB : GxR.TabB X.base X.mg c P) (hcode : X.env.code = .ref c) (hc : X.calm = true) (hN : X.N.Nodup) (ok : BlkOk X.N X.env.scope scope own) (hcell : ∀ y ∈ scope.names, y.2 ≠ .cell) (hco : scope.isCoroutine = false) (h0 : scope.names.lookup (".0" : Str) = some NameKind.local)
    (hs : ∀ v, genFold iter X.env v = pure v) (I : Inv X pins σ H s) (h : wI X tg iter σ H fun J H1 => GxR.TabG H1 P ∧ RR J H1)
    (hQ : ∀ it fp tn J H1 H2 s4 code a go g s5, RR J H1 → Made X pins σ P elt tg iter scope own gpos it fp tn J H1 H2 s4 code a go g s5 → Q' (.ref a) s5) :
    wpAny (model X.prog X.w) X.A (eval (.GeneratorExp elt [⟨tg, iter, [], 0⟩] scope gpos) X.env) Q' X.xe s := by
  have hclos : closureFor scope X.env = pure (cloFrom X.env.cells scope.names []) := closure_ok fun y hy e => by
    rcases ok.free y hy e with k | k
    · exact I.ok.has _ (.inl k)
    · exact I.ok.has _ (.inr k)
  refine wpAny_GeneratorExp_make hco hclos hcell h0 ok.kind (by have := hr.dp; omega) ?_ hs
  refine thn (h.run pins s I) fun xv s1 h1 => thn h1 fun itv s2 ⟨it, fp, tn, J, H1, eit, I2, T, t2, f2, ⟨ps, hP, ht⟩, hRR⟩ => ?_
  subst eit
  refine ⟨I2.nolimit, ?_⟩
  have hPs : s2.heap.get? P = some { cls := .none, data := .fields ps } := I2.hok P _ hP
  have cd : PySem.W.CodeHd s2.heap c P := TB.code.keeps fun b u e => I2.bk b u e
  have fin : ∀ (code : Value) (s3 : Shared) (H2 : Hp), GxR.Tabbed P H1 H2 → Inv X pins σ H2 s3 → (∀ b o, b ≠ P → s2.heap.get? b = some o → s3.heap.get? b = some o) →
      wpAny (model X.prog X.w) X.A (builtinsFor X.env.globals X.env.builtins) (fun bi s₄ => ∀ h', h'.Ns s₄.heap.objs.size (fun y => if y = ".0" then some (.ref it) else none) → Heap.SameBut s₄.heap.objs.size (s₄.heap.push { cls := .type "frame", data := .dict #[] }) h' →
          Q' (.ref h'.objs.size) { s₄ with
            gens := s₄.gens.push (.fresh (.compStart (.GeneratorExp elt [⟨tg, iter, [], 0⟩] scope gpos) 0 (.ref it) .none (genEnv scope (cloFrom X.env.cells scope.names []) s₄.heap.objs.size code bi X.env))),
            toks := s₄.toks + 1 + 1 + 1,
            heap := h'.push { cls := .type "generator", data := .fields #[.int s₄.gens.size 0, .str "<genexpr>" (s₄.toks + 1), .str (X.env.qual ++ "<genexpr>") (s₄.toks + 1 + 1)] } }) X.xe s3 := by
    intro code s3 H2 hT I3 k3
    obtain ⟨bm, ob, e1, e2, e3, e4, e5, e6, e7, e8⟩ := TB.bm
    refine wpAny_builtinsFor (m := X.mg) (by rw [I3.ok.glob]; exact I3.mod.glob.keeps I3.bk) e1 e2 (I3.bk _ _ e5) e6 e7 e8 ?_
    intro h' hn' hs'
    have nP : ∀ b ∈ fp, b ≠ P := fun b hb z => by
      have := (f2 b hb).1
      rw [z, hP] at this
      cases this
    have h2n : ∀ b ∈ fp, H2 b = none := fun b hb => by rw [hT.2 b (nP b hb)]; exact (f2 b hb).1
    have lt3 : ∀ b ∈ fp, b < s3.heap.objs.size := fun b hb => by
      obtain ⟨o, e, _⟩ := T.obj _ _ t2 b hb
      exact Heap.lt_size (k3 b o (nP b hb) e)
    have f3 : ∀ b ∈ fp, FpOk X pins H2 b := fun b hb => ⟨h2n b hb, (f2 b hb).2⟩
    have kp : ∀ b o, s3.heap.get? b = some o → (h'.push { cls := .type "generator", data := .fields #[.int s3.gens.size 0, .str "<genexpr>" (s3.toks + 1), .str (X.env.qual ++ "<genexpr>") (s3.toks + 1 + 1)] }).get? b = some o := fun b o e =>
      Heap.get?_push_of_some _ (hs'.extBut b o (Nat.ne_of_lt (Heap.lt_size e)) (Heap.get?_push_of_some _ e))
    have hsz : h'.objs.size = s3.heap.objs.size + 1 := by rw [hs'.1, Heap.size_push]
    refine hQ it fp tn J H1 H2 s3 code _ { cls := .type "generator", data := .fields #[.int s3.gens.size 0, .str "<genexpr>" (s3.toks + 1), .str (X.env.qual ++ "<genexpr>") (s3.toks + 1 + 1)] } s3.gens.size _ hRR ⟨hT, I3, f3, T, T.keep _ _ _ t2 fun b hb o e => kp b o (k3 b o (nP b hb) e), ?_, ?_, Array.getElem?_push_size .., fun b hb z => ?_⟩
    · refine gen_start I3 ok hN hcell (fun b hb => ⟨f3 b hb, lt3 b hb⟩) hn' hs' hr.hd ?_ rfl (fun v z => by cases z) rfl
      show X.A.frames.map _ = _
      rw [I3.ok.frames]
      rfl
    · exact fun hh e => ⟨_, _, _, e, rfl, rfl, rfl⟩
    · have := lt3 b hb
      rw [← z, hsz] at this
      exact Nat.lt_irrefl _ (Nat.lt_of_succ_lt this)
  cases hf : codeAmong gpos ps.toList with
  | none =>
    refine wpAny_genexprCodeX hcode (cd.code hPs ht) (cd.tab hPs) hf fun c' h3 tk hx hge hlt hco' _ htab' _ => ?_
    have htr : TriplesOk (ps ++ #[rawInt gpos.line, rawInt gpos.col, .ref c']).toList := by
      obtain ⟨o1, vs, f1, tf, fl, tg, inF, tx, tt, op, _, _, _, _, _, _, _, _, _, htr, _⟩ := hco'
      exact htr
    have J3 := GxR.inv_tab (more := #[rawInt gpos.line, rawInt gpos.col, .ref c']) (h' := h3) (g' := s2.gens) (d' := s2.drawn) (t' := tk) I2 hP (fun b u hb e => hx b u hb e) htab'.2 I2.bare
    exact fin _ _ _ ⟨⟨_, upd_same, htr⟩, fun b hb => upd_ne hb⟩ J3 fun b o hb e => hx b o hb e
  | some cv =>
    refine wpAny_genexprCode_hit hcode (cd.code hPs ht) hf ?_
    exact fin cv s2 H1 ⟨⟨ps, hP, ht⟩, fun _ _ => rfl⟩ I2 fun b o _ e => e
end
end GX
set_option Elab.async false
set_option linter.all false
set_option maxRecDepth 100000
set_option maxHeartbeats 4000000
namespace DL
open PySem PySem.Spec PyProof.Rows L2 GX
/-- one of the frames of a generator expression in X -/
abbrev Cx.gx (X : Cx) (scope : Scope) (s : Shared) (H : Hp) (code : Value) (fp : List Addr) (pn : List (Addr × Obj)) : Cx := genX X s H (gEnv X s scope code) fp (gA X.A (gEnv X s scope code)) pn
section
variable {X : Cx} {T : List Addr} {B : Bk} {elt tg iter : Expr} {scope : Scope} {own : List (Str × Nat)} {ρ : Rho} {S S1 : Sto} {pos gpos p : Pos} {xs : List D} {V : Sto → Prop}
/-- the items of a generator expression: val -/
structure GxOk (X : Cx) (T : List Addr) (B : Bk) (elt tg : Expr) (scope : Scope) (vs : List Nat) (ρ : Rho) (xs : List D) (V : Sto → Prop) (S1 : Sto) (val : Nat → D) : Prop where
  hs : ∀ (i : Nat) x, xs[i]? = some x → ∃ ρ1 ix, (∀ j ∈ ix, j ∈ vs) ∧ (∀ s H code fp pn, DG (Cx.gx X scope s H code fp pn) tg x (wipeR ρ vs) ρ1 ix) ∧ (∀ s H code fp pn B', B.Le B' → DX (Cx.gx X scope s H code fp pn) T B' elt ρ1 S1 (val i) S1)
  hV : V S1
/-- what holds of the heap before a turn -/
def gG (X : Cx) (T : List Addr) (B : Bk) (H1 : Hp) (S1 : Sto) (n : Nat) : Nat → Hp → Prop := fun i H => i ≤ n ∧ Gd X.K T (B.since H1 S1) H S1
def gE (X : Cx) (T : List Addr) (B : Bk) (S1 : Sto) (elt tg iter : Expr) (scope : Scope) (gpos : Pos) (n : Nat) (val : Nat → D) (H1 : Hp) (σ : L2.St) (it : Addr) (fp : List Addr) (tn : Nat → Heap → Prop) (J : It) (Xg : Cx) (Pn : Nat → List (Addr × Obj) → Prop) : Gen Xg where
  elt := elt
  tg := tg
  iter := iter
  scope := scope
  gpos := gpos
  it := it
  fp := fp
  tn := tn
  J := J
  n := n
  σ := σ
  G := gG X T B H1 S1 n
  Val := fun i x H => i < n ∧ Rep X.K (mm S1) H x (val i)
  Pn := Pn
theorem tabbed_ext {P : Addr} {H1 H2 : Hp} {K : PySem.W.Frag} (g : GoodS K T H1 S1) (hP : P ∈ T) (t : GxR.Tabbed P H1 H2) : Ext (mm S1) (mm S1) H1 H2 ∧ GoodS K T H2 S1 := by
  obtain ⟨ps, hp1, _⟩ := g.tab P hP
  have nP : ∀ a, a ∈ mm S1 → a ≠ P := fun a ha z => by
    obtain ⟨o, h, hn⟩ := g.memM ha
    rw [z, hp1] at h
    exact hn ps (Option.some.inj h).symm
  have e : Ext (mm S1) (mm S1) H1 H2 := ⟨fun a o ha h => by
    by_cases z : a = P
    · subst z
      rw [hp1] at h
      cases h
      obtain ⟨ps', h', _⟩ := t.1
      exact .inr ⟨⟨ps, rfl⟩, ps', h'⟩
    · exact .inl (by rw [t.2 a z]; exact h), fun a h n => absurd h n⟩
  refine ⟨e, fun q hq => (g.own q hq).ext e fun o h => by rw [t.2 _ (nP _ (List.mem_map.mpr ⟨q, hq, rfl⟩))]; exact h, g.nd, fun P' hP' => ?_⟩
  by_cases z : P' = P
  · rw [z]; exact t.1
  · obtain ⟨qs, h1, h2⟩ := g.tab P' hP'
    exact ⟨qs, by rw [t.2 _ z]; exact h1, h2⟩
theorem gE_ok {val : Nat → D} {pins : List (Addr × Obj)} {σ : L2.St} {H H1 H2 : Hp} {s4 s5 : Shared} {P it a : Addr} {fp : List Addr} {tn : Nat → Heap → Prop} {J : It} {code : Value} {go : Obj} {g : Nat} {Pn : Nat → List (Addr × Obj) → Prop}
    (hc : X.calm = true) (hco : scope.isCoroutine = false) (O : GxOk X T B elt tg scope (own.map (·.2)) ρ xs V S1 val) (sl : Slots X.K (mm S) H σ ρ) (x1 : Ext (mm S) (mm S1) H H1) (g1 : Gd X.K T B H1 S1) (Yd : Yields X.K T xs V (mm S1) H1 J)
    (M : Made X pins σ P elt tg iter scope own gpos it fp tn J H1 H2 s4 code a go g s5) (hpn : ∀ i pins, Pn i pins → ∀ p ∈ pins, p.1 ∉ fp) :
    (gE X T B S1 elt tg iter scope gpos xs.length val H1 (L2.wipe σ (own.map (·.2))) it fp tn J (Cx.gx X scope s4 H2 code fp [(a, go)]) Pn).Ok := by
  refine ⟨M.turn, hc, hco, fun b hb => hb, fun p hp hb => ?_, hpn, rfl, fun i H' hi hG => ?_, fun H' hG => ?_⟩
  · rw [List.mem_singleton.mp hp] at hb
    exact M.an a hb rfl
  · obtain ⟨hl, g'⟩ := hG
    have hi : i < xs.length := hi
    obtain ⟨y1, _⟩ := Yd i H' S1 O.hV g'.r.2 g'.g
    obtain ⟨go', st⟩ := y1 hi
    refine ⟨go', fun x H3 hy => ?_⟩
    obtain ⟨d, hd, r, x3, g3⟩ := st x H3 hy
    obtain ⟨ρ1, ix, hix, hg0, he0⟩ := O.hs i d hd
    have g3' := g'.to x3 g3
    have slw : Slots X.K (mm S1) H' (L2.wipe σ (own.map (·.2))) (wipeR ρ (own.map (·.2))) := ((sl.ext x1).ext g'.r.2).wipe _
    refine wG_mono (hg0 s4 H2 code fp [(a, go)] _ _ H3 x (slw.ext x3) r) fun σ4 H4 ⟨e4, s4', hj⟩ => ?_
    subst e4
    refine ⟨fun j v e => ?_, ?_⟩
    · have nj : j ∉ ix := fun z => (wipe_some e).2 (hix j z)
      rw [hj j nj]
      exact e
    · refine wE_mono (he0 s4 H2 code fp [(a, go)] _ (B.since_le H1 S1) σ4 _ g3' s4') fun v H5 ⟨d5, S5, ⟨e5, e6⟩, r5, g5, x5⟩ => ?_
      subst e5; subst e6
      exact ⟨⟨hi, r5⟩, hi, g5⟩
  · obtain ⟨hl, g'⟩ := hG
    exact (Yd xs.length H' S1 O.hV g'.r.2 g'.g).2 rfl
/-- back from a generator expression's frame -/
theorem gx_back {pins pins' : List (Addr × Obj)} {σ σ' : L2.St} {H' H1 H2 : Hp} {s4 s5 s' : Shared} {P it a : Addr} {fp : List Addr} {tn : Nat → Heap → Prop} {J : It} {code : Value} {go : Obj} {g : Nat}
    (M : Made X pins σ P elt tg iter scope own gpos it fp tn J H1 H2 s4 code a go g s5) (I : Inv (Cx.gx X scope s4 H2 code fp [(a, go)]) pins' σ' H' s') : Inv X pins σ H' s' :=
  M.I4.call' (ch := fp) I.os I.base I.hok I.bare fun b hb => ⟨(M.hfp b hb).2.2.2.1, (M.hfp b hb).2.1, (M.hfp b hb).2.2.2.2.1, (M.hfp b hb).2.2.2.2.2⟩
def trD (d : D) : Bool := match d with
  | .bl b => b
  | .int i => i != 0
  | _ => false
theorem boot_all' : bootBuiltins "all" = some (.builtin "all") := by decide +kernel
theorem boot_any' : bootBuiltins "any" = some (.builtin "any") := by decide +kernel
theorem gE_truth {val : Nat → D} {H1 : Hp} {σ : L2.St} {it : Addr} {fp : List Addr} {tn : Nat → Heap → Prop} {J : It} {Xg : Cx} {Pn : Nat → List (Addr × Obj) → Prop} {gp : Pos} {n : Nat} (hv : ∀ i, i < n → (∃ b, val i = .bl b) ∨ ∃ j, val i = .int j) :
    Truth (gE X T B S1 elt tg iter scope gp n val H1 σ it fp tn J Xg Pn) (fun i => trD (val i)) := by
  rintro i x H ⟨hi, r⟩
  have r : Rep X.K (mm S1) H x (val i) := r
  show x = .bl (trD (val i)) ∨ ∃ k : Int, x = .int k ∧ trD (val i) = (k != 0)
  rcases hv i hi with ⟨b, e⟩ | ⟨j, e⟩ <;> rw [e] at r ⊢ <;> cases r
  · exact .inl rfl
  · exact .inr ⟨j, rfl, rfl⟩
theorem gE_end {val : Nat → D} {H1 : Hp} {σ : L2.St} {it : Addr} {fp : List Addr} {tn : Nat → Heap → Prop} {J : It} {Xg : Cx} {Pn : Nat → List (Addr × Obj) → Prop} {gp : Pos} {n : Nat} {s' : Shared}
    (hs' : (gE X T B S1 elt tg iter scope gp n val H1 σ it fp tn J Xg Pn).End s' ∨ ∃ j v, (gE X T B S1 elt tg iter scope gp n val H1 σ it fp tn J Xg Pn).Out j v s') : ∃ H' pins', Inv Xg pins' σ H' s' ∧ Gd X.K T (B.since H1 S1) H' S1 := by
  rcases hs' with ⟨pins', H', _, I', hG⟩ | ⟨j, v, pins', H', x, _, I', _, _, _, _, hG⟩
  · exact ⟨H', pins', I', hG.2⟩
  · exact ⟨H', pins', I', hG.2⟩
theorem dx_all {val : Nat → D} {k : Nat} {c P : Addr} (hm : X.mg "all" = none) (hg : Gl X "all") (hr : Room (k + 1) X.A) (TB : GxR.TabB X.base X.mg c P) (hcode : X.env.code = .ref c) (hP : P ∈ T) (hc : X.calm = true) (hN : X.N.Nodup) (ok : BlkOk X.N X.env.scope scope own)
    (hi : DI X T B tg iter ρ S xs V S1) (O : GxOk X T B elt tg scope (own.map (·.2)) ρ xs V S1 val) (hv : ∀ i, i < xs.length → (∃ b, val i = .bl b) ∨ ∃ j, val i = .int j) (hcell : ∀ y ∈ scope.names, y.2 ≠ .cell := by decide +kernel) (hco : scope.isCoroutine = false := by rfl) (h0 : scope.names.lookup (".0" : Str) = some NameKind.local := by rfl)
    (hs : ∀ v, genFold iter X.env v = pure v := by intro _; rfl)
    (he : starEach [.GeneratorExp elt [⟨tg, iter, [], 0⟩] scope gpos] X.env = (false, eval (.GeneratorExp elt [⟨tg, iter, [], 0⟩] scope gpos) X.env) :: starEach [] X.env := by rfl) :
    DX X T B (.Call (.Name "all" p) [.GeneratorExp elt [⟨tg, iter, [], 0⟩] scope gpos] [] pos) ρ S (.bl ((List.range xs.length).all fun i => trD (val i))) S1 := fun σ H g sl => wE.mk fun pins st I => by
  refine wpAny_Call_Name_kw (ld_blt I hg hm boot_all' ?_)
  refine PyProof.Rows.callWith_builtin1 ?_ he (by rfl)
  rw [he]
  show wpAny _ _ (spliced ((false, eval (.GeneratorExp elt [⟨tg, iter, [], 0⟩] scope gpos) X.env) :: backTo pos (starEach [] X.env))) _ _ st
  have hw : wI X tg iter σ H fun J H1 => GxR.TabG H1 P ∧ (Gd X.K T B H1 S1 ∧ Ext (mm S) (mm S1) H H1 ∧ Yields X.K T xs V (mm S1) H1 J) := wI_mono (hi σ H g sl) fun J H1 q => ⟨q.1.g.tab P hP, q⟩
  refine Calls.spliced_cons (gen_make (k := k + 1) hr TB hcode hc hN ok hcell hco h0 hs I hw fun it fp tn J H1 H2 s4 code a go gg s5 ⟨g1, x1, Yd⟩ M => ?_)
  refine Calls.spliced_nil ?_
  have E := gE_ok (Pn := fun _ pins => pins = []) hc hco O sl x1 g1 Yd M (fun i pins e p hp => by subst e; cases hp)
  obtain ⟨x2, g2⟩ := tabbed_ext g1.g hP M.tab
  have S0 : (gE X T B S1 elt tg iter scope gpos xs.length val H1 (L2.wipe σ (own.map (·.2))) it fp tn J (Cx.gx X scope s4 H2 code fp [(a, go)]) (fun _ pins => pins = [])).Sus 0 s5 := ⟨[], H2, rfl, M.I5, M.tn0, fun b hb => (M.hfp b hb).1, Nat.zero_le _, (g1.since (Ext.refl _ _)).to x2 g2⟩
  refine call_function_tree F.kind_all F.plain_all F.entry_all (F.args_all1 _) ?_
  unfold Builtin.«all»
  refine wpAny_bind (m := oneArg "all" _) (wpAny_pure ?_)
  refine wpAny_bind (wpAny_pyIter_gen (M.isg _ (gen_at List.mem_cons_self S0)) ?_)
  refine wpAny_pure ⟨plainId_quiet F.plain_all_loop _, ?_⟩
  refine code_all (E := gE X T B S1 elt tg iter scope gpos xs.length val H1 (L2.wipe σ (own.map (·.2))) it fp tn J (Cx.gx X scope s4 H2 code fp [(a, go)]) (fun _ pins => pins = [])) (tr := fun i => trD (val i)) hr.hd hr.depth List.mem_cons_self M.isg (fun i j pins e => e) (gE_truth hv) xs.length 0 s5 rfl (Nat.zero_le _) S0
    ⟨_, M.gens, fun s'' h'' => ⟨rfl, seg_start E gA_loop gA_start s'' s'' h''⟩⟩ fun s' hs' => ?_
  obtain ⟨H', pins', I', g'⟩ := gE_end hs'
  exact ⟨.bl _, H', gx_back M I', rfl, _, _, ⟨rfl, rfl⟩, .bl _, g'.le (B.since_le H1 S1), x1.trans g'.r.2⟩
theorem dx_any {val : Nat → D} {k : Nat} {c P : Addr} (hm : X.mg "any" = none) (hg : Gl X "any") (hr : Room (k + 1) X.A) (TB : GxR.TabB X.base X.mg c P) (hcode : X.env.code = .ref c) (hP : P ∈ T) (hc : X.calm = true) (hN : X.N.Nodup) (ok : BlkOk X.N X.env.scope scope own)
    (hi : DI X T B tg iter ρ S xs V S1) (O : GxOk X T B elt tg scope (own.map (·.2)) ρ xs V S1 val) (hv : ∀ i, i < xs.length → (∃ b, val i = .bl b) ∨ ∃ j, val i = .int j) (hcell : ∀ y ∈ scope.names, y.2 ≠ .cell := by decide +kernel) (hco : scope.isCoroutine = false := by rfl) (h0 : scope.names.lookup (".0" : Str) = some NameKind.local := by rfl)
    (hs : ∀ v, genFold iter X.env v = pure v := by intro _; rfl)
    (he : starEach [.GeneratorExp elt [⟨tg, iter, [], 0⟩] scope gpos] X.env = (false, eval (.GeneratorExp elt [⟨tg, iter, [], 0⟩] scope gpos) X.env) :: starEach [] X.env := by rfl) :
    DX X T B (.Call (.Name "any" p) [.GeneratorExp elt [⟨tg, iter, [], 0⟩] scope gpos] [] pos) ρ S (.bl ((List.range xs.length).any fun i => trD (val i))) S1 := fun σ H g sl => wE.mk fun pins st I => by
  refine wpAny_Call_Name_kw (ld_blt I hg hm boot_any' ?_)
  refine PyProof.Rows.callWith_builtin1 ?_ he (by rfl)
  rw [he]
  show wpAny _ _ (spliced ((false, eval (.GeneratorExp elt [⟨tg, iter, [], 0⟩] scope gpos) X.env) :: backTo pos (starEach [] X.env))) _ _ st
  have hw : wI X tg iter σ H fun J H1 => GxR.TabG H1 P ∧ (Gd X.K T B H1 S1 ∧ Ext (mm S) (mm S1) H H1 ∧ Yields X.K T xs V (mm S1) H1 J) := wI_mono (hi σ H g sl) fun J H1 q => ⟨q.1.g.tab P hP, q⟩
  refine Calls.spliced_cons (gen_make (k := k + 1) hr TB hcode hc hN ok hcell hco h0 hs I hw fun it fp tn J H1 H2 s4 code a go gg s5 ⟨g1, x1, Yd⟩ M => ?_)
  refine Calls.spliced_nil ?_
  have E := gE_ok (Pn := fun _ pins => pins = []) hc hco O sl x1 g1 Yd M (fun i pins e p hp => by subst e; cases hp)
  obtain ⟨x2, g2⟩ := tabbed_ext g1.g hP M.tab
  have S0 : (gE X T B S1 elt tg iter scope gpos xs.length val H1 (L2.wipe σ (own.map (·.2))) it fp tn J (Cx.gx X scope s4 H2 code fp [(a, go)]) (fun _ pins => pins = [])).Sus 0 s5 := ⟨[], H2, rfl, M.I5, M.tn0, fun b hb => (M.hfp b hb).1, Nat.zero_le _, (g1.since (Ext.refl _ _)).to x2 g2⟩
  refine call_function_tree F.kind_any F.plain_any F.entry_any (F.args_any1 _) ?_
  unfold Builtin.«any»
  refine wpAny_bind (m := oneArg "any" _) (wpAny_pure ?_)
  refine wpAny_bind (wpAny_pyIter_gen (M.isg _ (gen_at List.mem_cons_self S0)) ?_)
  refine wpAny_pure ⟨plainId_quiet F.plain_any_loop _, ?_⟩
  refine code_any (E := gE X T B S1 elt tg iter scope gpos xs.length val H1 (L2.wipe σ (own.map (·.2))) it fp tn J (Cx.gx X scope s4 H2 code fp [(a, go)]) (fun _ pins => pins = [])) (tr := fun i => trD (val i)) hr.hd hr.depth List.mem_cons_self M.isg (fun i j pins e => e) (gE_truth hv) xs.length 0 s5 rfl (Nat.zero_le _) S0
    ⟨_, M.gens, fun s'' h'' => ⟨rfl, seg_start E gA_loop gA_start s'' s'' h''⟩⟩ fun s' hs' => ?_
  obtain ⟨H', pins', I', g'⟩ := gE_end hs'
  exact ⟨.bl _, H', gx_back M I', rfl, _, _, ⟨rfl, rfl⟩, .bl _, g'.le (B.since_le H1 S1), x1.trans g'.r.2⟩
end
end DL
set_option Elab.async false
set_option linter.all false
set_option maxRecDepth 100000
set_option maxHeartbeats 4000000
namespace DL
open PySem PySem.Spec PyProof.Rows L2
section
variable {X : Cx} {T : List Addr} {B : Bk} {e a b c o tg : Expr} {es : List Expr} {ρ ρ' : Rho} {S S1 S2 S3 S' : Sto} {d y z : D} {P : D → Sto → Prop} {pos p2 p : Pos} {ds xs ys : List D}
/-! ### slices -/
/-- a slice's part -/
def DO (X : Cx) (T : List Addr) (B : Bk) (e : Option Expr) (ρ : Rho) (S : Sto) (i : Option Int) (S' : Sto) : Prop := match e, i with
  | none, none => S' = S
  | some e, some i => DX X T B e ρ S (.int i) S'
  | _, _ => False
def wO (X : Cx) (e : Option Expr) : TO := fun σ H Q => ∃ t, PO X e t ∧ t σ H Q
theorem po_w {e : Option Expr} : PO X e (wO X e) := ⟨fun pins s σ H Q I ⟨t, h, q⟩ => h.run pins s σ H Q I q⟩
theorem do_w {e : Option Expr} {i : Option Int} (h : DO X T B e ρ S i S') {σ : L2.St} {H : Hp} (g : Gd X.K T B H S) (s : Slots X.K (mm S) H σ ρ) {Q : Option Int → Hp → Prop} (q : ∀ H', Gd X.K T B H' S' → Ext (mm S) (mm S') H H' → Q i H') : wO X e σ H Q := by
  cases e with
  | none =>
    cases i with
    | none =>
      have e1 : S' = S := h
      subst e1
      exact ⟨_, po_none, q H g (Ext.refl _ _)⟩
    | some i => exact h.elim
  | some e =>
    cases i with
    | none => exact h.elim
    | some i =>
      refine ⟨_, po_some pe_w, wE_mono (h σ H g s) fun v H1 ⟨d1, T1, ⟨e1, e2⟩, r1, g1, x1⟩ => ?_⟩
      subst e1; subst e2; cases r1
      exact ⟨i, rfl, q H1 g1 x1⟩
def cutD (xs : List D) (lo hi : Option Int) : List D := (xs.drop (HT.sIx xs.length 0 lo)).take (HT.sIx xs.length xs.length hi - HT.sIx xs.length 0 lo)
theorem Reps.cut {K : PySem.W.Frag} {M : List Addr} {H : Hp} {vs : List V} (r : Reps K M H vs xs) (lo hi : Option Int) : Reps K M H (cutV vs lo hi) (cutD xs lo hi) := by
  unfold cutV cutD
  rw [r.length]
  exact (r.drop _).take _
theorem dn_slice {lo hi : Option Expr} {i j : Option Int} (ha : DX X T B a ρ S d S1) (hl : DO X T B lo ρ S1 i S2) (hh : DO X T B hi ρ S2 j S3) (hv : Vw S3 d (.lst xs)) : DN X T B (.Subscript a (.Slice lo hi none p2) pos) ρ S (cutD xs i j) S3 := fun σ H g s => by
  refine wE_of (pe_slice (r := rSlL X.K) sl_list pe_w po_w po_w) (wE_mono (ha σ H g s) fun v H1 ⟨d1, T1, ⟨e1, e2⟩, r1, g1, x1⟩ => ?_)
  subst e1; subst e2
  refine do_w hl g1 (s.ext x1) fun H2 g2 x2 => do_w hh g2 ((s.ext x1).ext x2) fun H3 g3 x3 => ?_
  obtain ⟨q, ws, e1, e2, e3⟩ := hv.lst g3.g ((r1.ext x2).ext x3)
  subst e1
  exact ⟨q, ws, rfl, e2, fun p hp => Pt.newL (e3.cut _ _) g3 ((x1.trans x2).trans x3) hp⟩
/-- the script's own slice -/
theorem dn_sliceQ {lo hi : Option Expr} {i j : Option Int} (ha : DX X T B a ρ S (.lstQ xs) S1) (hl : DO X T B lo ρ S1 i S2) (hh : DO X T B hi ρ S2 j S3) : DN X T B (.Subscript a (.Slice lo hi none p2) pos) ρ S (cutD xs i j) S3 := fun σ H g s => by
  refine wE_of (pe_slice (r := rSlL X.K) sl_list pe_w po_w po_w) (wE_mono (ha σ H g s) fun v H1 ⟨d1, T1, ⟨e1, e2⟩, r1, g1, x1⟩ => ?_)
  subst e1; subst e2
  refine do_w hl g1 (s.ext x1) fun H2 g2 x2 => do_w hh g2 ((s.ext x1).ext x2) fun H3 g3 x3 => ?_
  cases (r1.ext x2).ext x3 with
  | lstQ h e3 => exact ⟨_, _, rfl, h.elim (fun k => .inr k) (fun k => .inl k.2), fun p hp => Pt.newL (e3.cut _ _) g3 ((x1.trans x2).trans x3) hp⟩
theorem cutD_whole {lo hi : Option Int} (h : HT.sIx xs.length 0 lo = 0 ∧ HT.sIx xs.length xs.length hi = xs.length) : cutD xs lo hi = xs := by
  unfold cutD
  rw [h.1, h.2, List.drop_zero, Nat.sub_zero, List.take_length]
theorem dx_slice {lo hi : Option Expr} {i j : Option Int} (ha : DX X T B a ρ S (.tup xs) S1) (hl : DO X T B lo ρ S1 i S2) (hh : DO X T B hi ρ S2 j S3) : DX X T B (.Subscript a (.Slice lo hi none p2) pos) ρ S (.tup (cutD xs i j)) S3 := fun σ H g s => by
  refine wE_of (pe_slice (r := rSlA X.K) sl_tupA pe_w po_w po_w) (wE_mono (ha σ H g s) fun v H1 ⟨d1, T1, ⟨e1, e2⟩, r1, g1, x1⟩ => ?_)
  subst e1; subst e2
  refine do_w hl g1 (s.ext x1) fun H2 g2 x2 => do_w hh g2 ((s.ext x1).ext x2) fun H3 g3 x3 => ?_
  have r3 := (r1.ext x2).ext x3
  obtain ⟨q, ws, e1, e2, e3⟩ := r3.tupT
  subst e1
  refine ⟨q, ws, rfl, e2, fun hw => ?_, fun _ p hp => Pt.newT (e3.cut _ _) g3 ((x1.trans x2).trans x3) hp⟩
  rw [e3.length] at hw
  rw [cutD_whole hw]
  exact ⟨_, _, ⟨rfl, rfl⟩, r3, g3, (x1.trans x2).trans x3⟩
theorem sIx_nat (n : Nat) (d k : Nat) : HT.sIx n d (some (k : Int)) = min k n := by
  unfold HT.sIx
  have h0 : ¬ ((k : Int) < 0) := by omega
  simp only [h0, if_false]
  simp
theorem cutD_lo (k : Nat) : cutD xs (some (k : Int)) none = xs.drop k := by
  have e : HT.sIx xs.length xs.length none = xs.length := rfl
  unfold cutD
  rw [sIx_nat, e]
  by_cases h : k ≤ xs.length
  · rw [Nat.min_eq_left h, List.take_of_length_le (by rw [List.length_drop]; exact Nat.le_refl _)]
  · rw [Nat.min_eq_right (by omega), List.drop_length, List.drop_of_length_le (by omega), List.take_nil]
theorem cutD_hi (k : Nat) : cutD xs none (some (k : Int)) = xs.take k := by
  have e : HT.sIx xs.length 0 none = 0 := rfl
  unfold cutD
  rw [sIx_nat, e, List.drop_zero, Nat.sub_zero]
  by_cases h : k ≤ xs.length
  · rw [Nat.min_eq_left h]
  · rw [Nat.min_eq_right (by omega), List.take_of_length_le (Nat.le_refl _), List.take_of_length_le (by omega)]
/-! ### sums of lists, tuples -/
theorem dx_catT (ha : DX X T B a ρ S (.tup xs) S1) (hb : DX X T B b ρ S1 (.tup ys) S2) (h : xs.length + ys.length ≤ 100000) : DX X T B (.BinOp a .Add b pos) ρ S (.tup (xs ++ ys)) S2 :=
  dx_op op_catA ha hb (fun H vx vy gd r1 r2 => by
    obtain ⟨q1, w1, e1, e2, e3⟩ := r1.tupT
    obtain ⟨q2, w2, f1, f2, f3⟩ := r2.tupT
    subst e1; subst f1
    refine ⟨q1, q2, w1, w2, rfl, rfl, e2, f2, by rw [e3.length, f3.length]; exact Nat.le_trans h (by decide), fun hx => ?_, fun _ hy => ?_, fun _ _ p hp => Pt.newT (e3.append f3) gd (Ext.refl _ _) hp⟩
    · subst hx; cases e3
      exact Pt.here ⟨rfl, rfl⟩ gd r2
    · subst hy; cases f3
      rw [List.append_nil]
      exact Pt.here ⟨rfl, rfl⟩ gd r1) (fun _ _ _ _ _ m ⟨p, q, xs, ys, e1, e2, e3, e4, e5, q1, q2, q3⟩ => ⟨p, q, xs, ys, e1, e2, e3, e4, e5, fun z => m _ _ (q1 z), fun z y => m _ _ (q2 z y), fun z y p hp => m _ _ (q3 z y p hp)⟩)
/-! ### == and in -/
mutual
inductive PD : D → PyData → Prop
  | non : PD .non .none
  | bl (b : Bool) : PD (.bl b) (.bool b)
  | int (i : Int) : PD (.int i) (.int i)
  | str (x : Str) : PD (.str x) (.str x)
  | lst {xs : List D} {ps : List PyData} : PDs xs ps → PD (.lst xs) (.list ps)
  | tup {xs : List D} {ps : List PyData} : PDs xs ps → PD (.tup xs) (.tuple ps)
inductive PDs : List D → List PyData → Prop
  | nil : PDs [] []
  | cons {d : D} {ds : List D} {p : PyData} {ps : List PyData} : PD d p → PDs ds ps → PDs (d :: ds) (p :: ps)
end
section
variable {K : PySem.W.Frag} {M : List Addr} {H : Hp}
mutual
theorem PD.dp : ∀ {d : D} {p : PyData} {v : V}, PD d p → Rep K M H v d → Dp K H v p
  | _, _, _, .non, .non => .non
  | _, _, _, .bl b, .bl _ => .bl b
  | _, _, _, .int i, .int _ => .int i
  | _, _, _, .str i, .str _ => .str i
  | _, _, _, .lst hs, r => by
    obtain ⟨q, ws, e1, e2, e3⟩ := r.lstL
    subst e1
    exact .lst e2 (PDs.dp hs e3)
  | _, _, _, .tup hs, r => by
    obtain ⟨q, ws, e1, e2, e3⟩ := r.tupT
    subst e1
    exact .tup e2 (PDs.dp hs e3)
theorem PDs.dp : ∀ {ds : List D} {ps : List PyData} {vs : List V}, PDs ds ps → Reps K M H vs ds → DpAll K H vs ps
  | _, _, _, .nil, .nil => .nil
  | _, _, _, .cons h t, .cons r s => .cons (PD.dp h r) (PDs.dp t s)
end
end
theorem PDs.strs : ∀ ts : List Str, PDs (ts.map D.str) (ts.map PyData.str)
  | [] => .nil
  | t :: ts => .cons (.str t) (PDs.strs ts)
theorem PDs.ints : ∀ ts : List Int, PDs (ts.map D.int) (ts.map PyData.int)
  | [] => .nil
  | t :: ts => .cons (.int t) (PDs.ints ts)
theorem mono_eqD {K : PySem.W.Frag} : ∀ x y H (Q Q' : VK), (∀ v H', Q v H' → Q' v H') → rEqD K x y H Q → rEqD K x y H Q' := fun _ _ _ _ _ m ⟨d, e, h1, h2, h3, h4, q⟩ => ⟨d, e, h1, h2, h3, h4, m _ _ q⟩
theorem mono_neD {K : PySem.W.Frag} : ∀ x y H (Q Q' : VK), (∀ v H', Q v H' → Q' v H') → rNeD K x y H Q → rNeD K x y H Q' := fun _ _ _ _ _ m ⟨d, e, h1, h2, h3, h4, q⟩ => ⟨d, e, h1, h2, h3, h4, m _ _ q⟩
theorem mono_inD {K : PySem.W.Frag} : ∀ x y H (Q Q' : VK), (∀ v H', Q v H' → Q' v H') → rInD K x y H Q → rInD K x y H Q' := fun _ _ _ _ _ m ⟨d, e, h1, h2, h3, h4, q⟩ => ⟨d, e, h1, h2, h3, h4, m _ _ q⟩
theorem mono_ninD {K : PySem.W.Frag} : ∀ x y H (Q Q' : VK), (∀ v H', Q v H' → Q' v H') → rNotInD K x y H Q → rNotInD K x y H Q' := fun _ _ _ _ _ m ⟨d, e, h1, h2, h3, h4, q⟩ => ⟨d, e, h1, h2, h3, h4, m _ _ q⟩
theorem mono_in {K : PySem.W.Frag} {n : Bool} : ∀ x y H (Q Q' : VK), (∀ v H', Q v H' → Q' v H') → rIn K n x y H Q → rIn K n x y H Q' := fun _ _ _ _ _ m ⟨d, e, h1, h2, h3, h4, q⟩ => ⟨d, e, h1, h2, h3, h4, m _ _ q⟩
theorem ov_eqD {x y : D} {px py : PyData} (h1 : PD x px) (h2 : PD y py) (s1 : SeqAt.shaped px = true) (s2 : SeqAt.shaped py = true) : OV X T B (rEqD X.K) x y S (.bl (PyData.eqv px py)) S := fun H vx vy gd r1 r2 => ⟨px, py, h1.dp r1, h2.dp r2, s1, s2, Pt.here ⟨rfl, rfl⟩ gd (.bl _)⟩
theorem ov_neD {x y : D} {px py : PyData} (h1 : PD x px) (h2 : PD y py) (s1 : SeqAt.shaped px = true) (s2 : SeqAt.shaped py = true) : OV X T B (rNeD X.K) x y S (.bl (!PyData.eqv px py)) S := fun H vx vy gd r1 r2 => ⟨px, py, h1.dp r1, h2.dp r2, s1, s2, Pt.here ⟨rfl, rfl⟩ gd (.bl _)⟩
theorem inV_strs (u : Str) : ∀ ts : List Str, inV (.str u) (ts.map V.str) = decide (u ∈ ts)
  | [] => rfl
  | t :: ts => by
    have h := inV_strs u ts
    unfold inV at h ⊢
    rw [List.map_cons, List.any_cons, h]
    show ((t == u) || decide (u ∈ ts)) = _
    by_cases e : t = u
    · subst e; simp
    · have e2 : ¬ u = t := fun z => e z.symm
      simp [e, e2]
theorem all_flatS (ts : List Str) : (ts.map V.str).all flatV = true := by
  rw [List.all_map]
  exact List.all_eq_true.mpr fun _ _ => rfl
theorem ov_inTs {u : Str} {ts : List Str} {n : Bool} (h : SeqD S d (ts.map D.str)) : OV X T B (rIn X.K n) (.str u) d S (.bl (if n then !decide (u ∈ ts) else decide (u ∈ ts))) S := fun H vx vy gd r1 r2 => by
  cases r1
  obtain ⟨q, ws, e1, e2, e3⟩ := h.sq gd.g r2
  subst e1
  have e4 := e3.strs
  subst e4
  refine ⟨q, _, rfl, e2, rfl, all_flatS ts, ?_⟩
  rw [inV_strs]
  exact Pt.here ⟨rfl, rfl⟩ gd (.bl _)
theorem dx_inTs {u : Str} {ts : List Str} (ha : DX X T B a ρ S (.str u) S1) (hb : DX X T B b ρ S1 d S2) (h : SeqD S2 d (ts.map D.str)) (hn : behindInMarks .In b = false := by rfl) : DX X T B (.Compare a [.In] [b] pos) ρ S (.bl (decide (u ∈ ts))) S2 := dx_cmp op_in_seq ha hb (ov_inTs (n := false) h) mono_in hn
theorem dt_inTs {u : Str} {ts : List Str} (ha : DX X T B a ρ S (.str u) S1) (hb : DX X T B b ρ S1 d S2) (h : SeqD S2 d (ts.map D.str)) (hn : behindInMarks .In b = false := by rfl) : DT X T B (.Compare a [.In] [b] pos) ρ S (decide (u ∈ ts)) S2 := dt_cmp op_in_seq ha hb (ov_inTs (n := false) h) mono_in hn
theorem dx_ninTs {u : Str} {ts : List Str} (ha : DX X T B a ρ S (.str u) S1) (hb : DX X T B b ρ S1 d S2) (h : SeqD S2 d (ts.map D.str)) (hn : behindInMarks .NotIn b = false := by rfl) : DX X T B (.Compare a [.NotIn] [b] pos) ρ S (.bl (!decide (u ∈ ts))) S2 := dx_cmp op_notIn_seq ha hb (ov_inTs (n := true) h) mono_in hn
theorem dt_ninTs {u : Str} {ts : List Str} (ha : DX X T B a ρ S (.str u) S1) (hb : DX X T B b ρ S1 d S2) (h : SeqD S2 d (ts.map D.str)) (hn : behindInMarks .NotIn b = false := by rfl) : DT X T B (.Compare a [.NotIn] [b] pos) ρ S (!decide (u ∈ ts)) S2 := dt_cmp op_notIn_seq ha hb (ov_inTs (n := true) h) mono_in hn
/-! ### isinstance -/
/-- a value's built-in class -/
def tyD : D → Option String
  | .non => some "NoneType" | .bl _ => some "bool" | .int _ => some "int" | .str _ => some "str" | .tup _ => some "tuple" | .tupF _ => some "tuple" | .tupP _ => some "tuple" | .lst _ => some "list" | .dK _ => some "dict"
  | _ => none
theorem Rep.tyx {K : PySem.W.Frag} {M : List Addr} {H : Hp} {v : V} {n : String} (r : Rep K M H v d) (h : tyD d = some n) : TyX K H v (.type n) := by
  cases r with
  | non => cases h; exact .base .non
  | bl b => cases h; exact .base (.bl b)
  | int b => cases h; exact .base (.int b)
  | str b => cases h; exact .base (.str b)
  | ty _ => cases h
  | ref _ => cases h
  | obj _ _ _ _ => cases h
  | tupK h1 _ => cases h; obtain ⟨o, _, _, h1, h2, _⟩ := h1; exact .kTuple h1 h2
  | tup _ h1 _ => cases h; exact h1.elim (fun h1 => .base (.tup h1)) fun ⟨o, h1⟩ => .fTuple h1
  | tupF _ h1 _ _ => cases h; exact .fTuple h1
  | tupP _ h1 _ => cases h; exact .base (.tup h1)
  | lst _ h1 _ => cases h; exact h1.elim (fun h1 => .base (.lst h1)) fun ⟨o, h1⟩ => .base (.frz h1)
  | dK _ h1 _ _ => cases h; exact h1.elim (fun h1 => .base (.dK h1)) fun ⟨o, h1⟩ => .fDict h1
  | dT _ _ _ _ => cases h
  | lstQ _ _ => cases h
  | dKF _ _ _ _ => cases h
end
end DL
set_option Elab.async false
set_option linter.all false
set_option maxRecDepth 100000
set_option maxHeartbeats 4000000
namespace DL
open PySem PySem.Spec PyProof.Rows L2
section
variable {X : Cx} {T : List Addr} {B : Bk} {e a b c o tg : Expr} {es : List Expr} {ρ ρ' : Rho} {S S1 S2 S3 S' : Sto} {d y z : D} {P : D → Sto → Prop} {pos p2 p p3 : Pos} {ds xs ys : List D}
/-! ### isinstance -/
theorem dx_isi {n m : String} {k : Bool} (hm : X.mg "isinstance" = none) (hg : Gl X "isinstance") (ha : DX X T B a ρ S d S1) (hb : DX X T B b ρ S1 (.ty m) S1) (hd : tyD d = some n) (hk : PySem.W.kitOne X.K (.type n) (.type m) = some k)
    (h1 : starEach [a, b] X.env = (false, eval a X.env) :: starEach [b] X.env := by rfl) (h2 : starEach [b] X.env = (false, eval b X.env) :: starEach [] X.env := by rfl) (hpl : (backTo pos (starEach [b] X.env)).any (·.1) = false := by rfl) :
    DX X T B (.Call (.Name "isinstance" p) [a, b] [] pos) ρ S (.bl k) S1 :=
  de_callB (r := rIsi X.K) call_isi (fun _ _ _ _ m ⟨x, c, t, u, b, h1, h2, h3, h4, q⟩ => ⟨x, c, t, u, b, h1, h2, h3, h4, m _ _ q⟩) hg hm (by decide +kernel) (da_cons ha (da_cons hb da_nil h2) h1) (fun H vs g r => by
    cases r with
    | cons r1 r2 =>
      cases r2 with
      | cons r2 r3 =>
        cases r3; cases r2
        exact ⟨_, _, _, _, k, rfl, .ty m, r1.tyx hd, hk, Pt.here ⟨rfl, rfl⟩ g (.bl _)⟩) (he := h1) (hpl := hpl)
/-- isinstance(x, (list, tuple)) and alike -/
theorem dx_isiT {n : String} {ms : List String} {k : Bool} {x1 : Nat} (hm : X.mg "isinstance" = none) (hg : Gl X "isinstance") (ha : DX X T B a ρ S d S1) (hb : DA X T B es ρ S1 (ms.map D.ty) S1) (hd : tyD d = some n) (hl : ms.length ≤ 100000) (hk : PySem.W.kitAny X.K (.type n) (ms.map Value.type) = some k)
    (h1 : starEach [a, .Tuple es x1 p3] X.env = (false, eval a X.env) :: starEach [.Tuple es x1 p3] X.env := by rfl) (h2 : starEach [.Tuple es x1 p3] X.env = (false, eval (.Tuple es x1 p3) X.env) :: starEach [] X.env := by rfl) (hpl : (backTo pos (starEach [.Tuple es x1 p3] X.env)).any (·.1) = false := by rfl) :
    DX X T B (.Call (.Name "isinstance" p) [a, .Tuple es x1 p3] [] pos) ρ S (.bl k) S1 := fun σ H g s => by
  refine wE_of (pe_callB (id := "isinstance") (r := rIsiT X.K) call_isiT hg hm (by decide +kernel) (pa_cons (pe_w (e := a)) (pa_cons (pe_tup pa_w) pa_nil h2) h1) (by decide) (by decide) h1 hpl) (wE_mono (ha σ H g s) fun v H1 ⟨d1, T1, ⟨e1, e2⟩, r1, g1, x1⟩ => ?_)
  subst e1; subst e2
  refine wA_mono (hb σ H1 g1 (s.ext x1)) fun vs H2 ⟨r2, g2, x2⟩ => ⟨by rw [r2.length, List.length_map]; exact Nat.le_trans hl (by decide), fun tp htp => ?_⟩
  have ev : ∀ {ws : List V} {ms : List String}, Reps X.K (mm T1) H2 ws (ms.map D.ty) → Paired ClsV ws (ms.map Value.type) := by
    intro ws ms
    induction ms generalizing ws with
    | nil => intro r; cases r; exact .nil
    | cons m ms ih => intro r; cases r with | cons q t => cases q; exact .cons (.ty m) (ih t)
  have x3 : Ext (mm T1) (mm T1) H2 (upd H2 tp (.tup vs)) := Ext.new1 htp
  have r3 := (r1.ext x2).ext x3
  exact ⟨v, tp, vs, _, _, k, rfl, upd_same, ev r2, r3.tyx hd, hk, _, _, ⟨rfl, rfl⟩, .bl _, g2.to x3 (g2.g.new1 htp), (x1.trans x2).trans x3⟩
/-! ### sorted -/
theorem got_of {P : Program} {w : World} {H : Hp} {h : Heap} {a : Addr} {o : HO} (x : ObjOk P w H h a o) : ∃ u, h.get? a = some u := by
  cases o with
  | lst xs => obtain ⟨_, _, _, _, e⟩ := x; exact ⟨_, e⟩
  | tup xs => obtain ⟨_, _, _, u, e, _⟩ := x; exact ⟨u, e⟩
  | dK kvs => obtain ⟨_, _, _, _, o, _, _, e, _⟩ := x; exact ⟨_, e⟩
  | dT kvs => obtain ⟨_, _, _, _, o, _, _, e, _⟩ := x; exact ⟨_, e⟩
  | set S n => obtain ⟨o, _, _, _, e, _⟩ := x; exact ⟨_, e⟩
  | ins C dx fs => obtain ⟨_, _, _, e, _⟩ := x; exact ⟨_, e⟩
  | own y => exact x
  | xd fs => obtain ⟨_, ⟨_, _, _, e, _⟩, _⟩ := x; exact ⟨_, e⟩
  | rng lo hi => obtain ⟨_, _, _, e⟩ := x; exact ⟨_, e⟩
  | frz ob u => obtain ⟨e, _⟩ := x; exact ⟨_, e⟩
  | tbl ps => exact ⟨_, (show h.get? a = some _ from x)⟩
  | met f y => exact ⟨_, (show h.get? a = some _ from x)⟩
  | ext φ => obtain ⟨_, e, _⟩ := x; exact e
theorem free_of {P : Program} {w : World} {H : Hp} {h : Heap} {a : Addr} (k : HOk P w H h) (e : h.get? a = none) : H a = none := by
  cases hh : H a with
  | none => rfl
  | some o => obtain ⟨u, e2⟩ := got_of (k a o hh); rw [e] at e2; cases e2
theorem sorted_seqS {l : Addr} {T : String} {ob : Obj} {its : Array Value} {n : Nat} {prog : Program} {w : World} {A : Around} {E : Value → Shared → Prop} {s : Shared} {ss : List Str} {Q : Value → Shared → Prop} (hT : T = "list" ∨ T = "tuple") (ho : s.heap.get? l = some ob) (hc : ob.cls = .type T) (hd : ob.data = .seq its n)
    (hS : StrsAre its.toList ss) (h64 : its.size < 64)
    (h : ∀ (h' : Heap) (a : Addr) (out : Array Value) (ep : Nat) (ss' : List Str), (∀ b u, s.heap.get? b = some u → h'.get? b = some u) → s.heap.get? a = none → h'.get? a = some (seqObj "list" out ep) → StrsAre out.toList ss' → ss'.Perm ss → sortedS ss' = true → Q (.ref a) { s with heap := h' }) :
    wpAny (model prog w) A (call (.builtin "sorted") [.ref l]) Q E s := by
  refine Calls.call_function_entry kind_sorted plain_sorted entry_sorted (args_sorted1 _) ?_
  unfold Builtin.«sorted»
  refine wpAny_bind (m := checkCount "sorted" 1 1 _) (wpAny_pure ?_)
  refine wpAny_bind (wpAny_collect_seq l hT ho hc hd (fun h1 k1 => ?_) (by rw [sizeLine_eq]; omega))
  refine wpAny_bind (wpAny_newList ?_ (by rw [sizeLine_eq]; simp only [Array.length_toList]; omega))
  have hoL : (h1.push (seqObj "list" its.toList.toArray 0)).get? h1.objs.size = some (seqObj "list" its.toList.toArray 0) := Heap.get?_push_size _ rfl
  refine wpAny_bind (wpAny_holding (wpAny_call_entry slot_list_sort ⟨_, hoL, rfl⟩ entry_list_sort (list_sort_treeK (s := { s with heap := h1.push (seqObj "list" its.toList.toArray 0) }) strKind_oneLt hoL hS.keysOf (fun v₁ v₂ rest e => keyKind_strs (by rw [← e]; exact hS)) (by simpa using h64) fun st' hp hs => ?_) (args_list_sort _)))
  obtain ⟨ss', a1, a2, a3⟩ := sorted_out_str hS hp hs
  obtain ⟨ep, hep⟩ := sortedHeap_at (vs := its.toList) (out := (arrOf st').map (·.2)) hoL
  have szle : s.heap.get? h1.objs.size = none := by
    cases hz : s.heap.get? h1.objs.size with
    | none => rfl
    | some u => exact absurd (Heap.lt_size (k1 _ _ hz)) (Nat.lt_irrefl _)
  refine ⟨_, rfl, wpAny_pure ⟨_, rfl, h _ h1.objs.size _ ep ss' (fun b u e => ?_) szle hep a1 a2 a3⟩⟩
  have q := k1 b u e
  rw [sortedHeap_old (Nat.ne_of_lt (Heap.lt_size q)) (by rw [size_push']; exact Nat.lt_succ_of_lt (Heap.lt_size q))]
  exact Heap.get?_push_of_some _ q
/-- sorted(xs), xs a list or tuple of texts -/
abbrev rSortedQ (K : PySem.W.Frag) : List V → Hp → VK → Prop := fun vs H Q => ∃ (a : Addr) (xs : List Str), vs = [V.ref a] ∧ (SqL K H a (xs.map V.str) ∨ SqT K H a (xs.map V.str)) ∧ xs.length < 64 ∧
  ∀ (ys : List Str) (p : Addr), ys.Perm xs → sortedS ys = true → H p = none → Q (.ref p) (upd H p (.lst (ys.map V.str)))
theorem cr_sortedQ : CallR X (.builtin "sorted") (rSortedQ X.K) := by
  intro pins s σ H vs us Q I r h
  obtain ⟨a, xs, rfl, hs, h64, q⟩ := h
  rw [Vals.ref1 r]
  obtain ⟨its, T, ob, n, rv, hT, ho, hc, hd⟩ : ∃ (its : List Value) (T : String) (ob : Obj) (n : Nat), Vals (xs.map V.str) its ∧ (T = "list" ∨ T = "tuple") ∧ s.heap.get? a = some ob ∧ ob.cls = .type T ∧ ob.data = .seq its.toArray n := by
    rcases hs with hs | hs
    · obtain ⟨its, rv, ⟨o, n, h1, h2, _, h3⟩, _⟩ := I.list hs
      exact ⟨its, "list", o, n, rv, .inl rfl, h1, h2, h3⟩
    · obtain ⟨its, rv, ⟨o, h1, h2, n, h3⟩, _⟩ := I.tuple hs
      exact ⟨its, "tuple", o, n, rv, .inr rfl, h1, h2, h3⟩
  have hlen0 := rv.length
  rw [List.length_map] at hlen0
  refine sorted_seqS (ss := xs) hT ho hc hd (by simpa using rv.strs) (by rw [List.size_toArray, ← hlen0]; exact h64) fun h' a' out ep ss' k hz hg h1 h2 h3 => ?_
  have hlen : (ss'.map V.str).length ≤ sizeLine := by rw [List.length_map, h2.length_eq]; exact small64 h64
  have hn : H a' = none := free_of I.hok hz
  exact ⟨.ref _, upd H a' (.lst (ss'.map V.str)), I.laidN (t' := s.toks) k hz hn ⟨hlen, out.toList, ep, vals_of_strs h1, hg⟩, rfl, q ss' _ h2 h3 hn⟩
theorem dn_sorted {ss : List Str} (hm : X.mg "sorted" = none) (hg : Gl X "sorted") (ha : DX X T B a ρ S d S1) (hs : SeqD S1 d (ss.map D.str)) (h64 : ss.length < 64) (h1 : starEach (a :: []) X.env = (false, eval a X.env) :: starEach [] X.env := by rfl) :
    DE X T B (.Call (.Name "sorted" p) [a] [] pos) ρ S (fun d S'' => ∃ l ys, ys.Perm ss ∧ sortedS ys = true ∧ d = .ref l ∧ S'' = S1 ++ [(l, .lst (ys.map D.str))]) :=
  de_callB (r := rSortedQ X.K) cr_sortedQ (fun _ _ _ _ m ⟨p, ys, e, h, h2, q⟩ => ⟨p, ys, e, h, h2, fun l hl k1 k2 k3 => m _ _ (q l hl k1 k2 k3)⟩) hg hm (by decide +kernel) (da_cons ha da_nil h1) (fun H vs g r => by
    cases r with
    | cons r1 r2 =>
      cases r2
      obtain ⟨q, ws, e1, e2, e3⟩ := hs.sq g.g r1
      have e4 := e3.strs
      subst e4; subst e1
      refine ⟨q, ss, rfl, e2, h64, fun ys l hp hso hl => ?_⟩
      obtain ⟨d, S'', ⟨l', e1, e2⟩, w⟩ := Pt.newL (X := X) (T := T) (B := B) (S' := S1) (Reps.ofStrs (K := X.K) (M := mm S1) (H := H) ys) g (Ext.refl _ _) hl
      exact ⟨d, S'', ⟨l', ys, hp, hso, e1, e2⟩, w⟩) (he := h1)
/-! ### zip of two tuples -/
def zipD : List D → List D → List D
  | x :: xs, y :: ys => .tup [x, y] :: zipD xs ys
  | _, _ => []
theorem zipD_length : ∀ xs ys : List D, (zipD xs ys).length = min xs.length ys.length
  | [], _ => by simp [zipD]
  | _ :: _, [] => by simp [zipD]
  | x :: xs, y :: ys => by
    show (zipD xs ys).length + 1 = _
    rw [zipD_length xs ys, List.length_cons, List.length_cons]
    omega
theorem zipD_get : ∀ {xs ys : List D} {i : Nat} {x y : D}, xs[i]? = some x → ys[i]? = some y → (zipD xs ys)[i]? = some (.tup [x, y])
  | [], _, _, _, _, h, _ => by simp at h
  | _ :: _, [], _, _, _, _, h => by simp at h
  | a :: xs, b :: ys, 0, x, y, h, k => by
    simp at h k
    subst h; subst k
    rfl
  | a :: xs, b :: ys, i + 1, x, y, h, k => by
    show (zipD xs ys)[i]? = _
    exact zipD_get (by simpa using h) (by simpa using k)
theorem zipD_of {xs ys : List D} {i : Nat} {z : D} (h : (zipD xs ys)[i]? = some z) : ∃ x y, xs[i]? = some x ∧ ys[i]? = some y ∧ z = .tup [x, y] := by
  have hl : i < (zipD xs ys).length := (List.getElem?_eq_some_iff.mp h).1
  rw [zipD_length] at hl
  have h1 : xs[i]? = some xs[i] := List.getElem?_eq_getElem (by omega)
  have h2 : ys[i]? = some ys[i] := List.getElem?_eq_getElem (by omega)
  have := zipD_get h1 h2
  rw [h] at this
  exact ⟨_, _, h1, h2, Option.some.inj this⟩
theorem di_zip {elts : List Expr} {kk : Nat} {tpos : Pos} (hm : X.mg "zip" = none) (hg : Gl X "zip") (ha : DX X T B a ρ S (.tup xs) S1) (hb : DX X T B b ρ S1 (.tup ys) S2)
    (hs : starEach [a, b] X.env = (false, eval a X.env) :: starEach [b] X.env := by rfl) (hs2 : starEach [b] X.env = (false, eval b X.env) :: starEach [] X.env := by rfl) (hpl : (backTo pos (starEach [b] X.env)).any (·.1) = false := by rfl) :
    DI X T B (.Tuple elts kk tpos) (.Call (.Name "zip" p) [a, b] [] pos) ρ S (zipD xs ys) (fun _ => True) S2 := fun σ H g s => by
  refine wI_of (RZ.pi_zipA hg hm pa_w hs hpl) (wA_mono (da_cons ha (da_cons hb da_nil hs2) hs σ H g s) fun vs H1 ⟨r, g1, x1⟩ => ?_)
  cases r with
  | cons r1 r2 =>
    cases r2 with
    | cons r2 r3 =>
      cases r3
      obtain ⟨qa, vs, e1, h1, rs1⟩ := r1.tupT'
      obtain ⟨qb, ws, e2, h2, rs2⟩ := r2.tupT'
      subst e1; subst e2
      refine ⟨qa, qb, vs, ws, rfl, .inr ⟨h1 _ _ (Ext.refl _ _), h2 _ _ (Ext.refl _ _), g1, x1, fun i H2 S2' _ x2 g2 => ⟨fun hlt => ?_, fun hi => ?_⟩⟩⟩
      · have hlt' := hlt
        rw [zipD_length] at hlt'
        have k1 : xs[i]? = some xs[i] := List.getElem?_eq_getElem (by omega)
        have k2 : ys[i]? = some ys[i] := List.getElem?_eq_getElem (by omega)
        obtain ⟨u1, hu1, ru1⟩ := rs1.get k1
        obtain ⟨u2, hu2, ru2⟩ := rs2.get k2
        refine ⟨⟨vs, ws, u1, u2, h1 _ _ x2, h2 _ _ x2, hu1, hu2⟩, fun x H3 ⟨Tp, v1, v2, e1, e2, e3, q1, q2⟩ => ?_⟩
        subst e1; subst e3
        have z1 := q1 _ (h1 _ _ x2)
        have z2 := q2 _ (h2 _ _ x2)
        rw [hu1] at z1; rw [hu2] at z2
        cases z1; cases z2
        have x3 : DL.Ext (mm S2') (mm S2') H2 (upd H2 Tp (.tup [u1, u2])) := Ext.new1 e2
        have np : Tp ∉ mm S2' := fun z => by
          obtain ⟨o, h, _⟩ := g2.memM z
          rw [e2] at h; cases h
        exact ⟨_, zipD_get k1 k2, .tup np (.inl upd_same) (.cons ((ru1.ext x2).ext x3) (.cons ((ru2.ext x2).ext x3) .nil)), x3, g2.new1 e2⟩
      · rw [zipD_length] at hi
        exact ⟨vs, ws, h1 _ _ x2, h2 _ _ x2, by rw [rs1.length, rs2.length]; omega⟩
end
end DL
set_option Elab.async false
set_option linter.all false
set_option maxRecDepth 100000
set_option maxHeartbeats 4000000
namespace DL
open PySem PySem.Spec PyProof.Rows L2
section
variable {X : Cx} {T : List Addr} {B : Bk} {e a b c o tg : Expr} {es : List Expr} {st : Stmt} {sts sts' rest : List Stmt} {ρ ρ' : Rho} {S S1 S2 S3 S' : Sto} {d y z : D} {Q : D → Sto → Prop} {P : DEnds} {pos p2 p pos' : Pos} {ds xs ys : List D}
/-! ### statements one behind the other -/
theorem qs_asgE (i : Nat) {n : Str} (hN : X.N.Nodup) (he : DE X T B e ρ S Q) (k : ∀ d S', Q d S' → DSs X T B rest (ρ.set i (some d)) S' P) (hi : X.N[i]? = some n := by rfl) (hx : Loc X.env.scope n := by first | exact Or.inl rfl | exact Or.inr rfl)
    (hs : swapsWith e (some (.Name n pos')) pos.line X.env = pure false := by rfl) (hf : X.fn n = true ∨ X.env.scope.names.lookup n = some .local := by first | exact .inl rfl | exact .inr rfl) : DSs X T B (.Assign [.Name n pos'] e pos :: rest) ρ S P :=
  dss_cons (ds_asg i hN he k hi hx hs hf)
theorem qs_asg (i : Nat) {n : Str} (hN : X.N.Nodup) (he : DX X T B e ρ S d S') (k : DSs X T B rest (ρ.set i (some d)) S' P) (hi : X.N[i]? = some n := by rfl) (hx : Loc X.env.scope n := by first | exact Or.inl rfl | exact Or.inr rfl)
    (hs : swapsWith e (some (.Name n pos')) pos.line X.env = pure false := by rfl) (hf : X.fn n = true ∨ X.env.scope.names.lookup n = some .local := by first | exact .inl rfl | exact .inr rfl) : DSs X T B (.Assign [.Name n pos'] e pos :: rest) ρ S P :=
  qs_asgE i hN he (fun d S' ⟨e1, e2⟩ => by subst e1; subst e2; exact k) hi hx hs hf
/-- y = a list that is made -/
theorem qs_asgN (i : Nat) {n : Str} (hN : X.N.Nodup) (he : DN X T B e ρ S ds S') (k : ∀ l, DSs X T B rest (ρ.set i (some (.ref l))) (S' ++ [(l, .lst ds)]) P) (hi : X.N[i]? = some n := by rfl) (hx : Loc X.env.scope n := by first | exact Or.inl rfl | exact Or.inr rfl)
    (hs : swapsWith e (some (.Name n pos')) pos.line X.env = pure false := by rfl) (hf : X.fn n = true ∨ X.env.scope.names.lookup n = some .local := by first | exact .inl rfl | exact .inr rfl) : DSs X T B (.Assign [.Name n pos'] e pos :: rest) ρ S P :=
  qs_asgE i hN he (fun d S' ⟨l, e1, e2⟩ => by subst e1; subst e2; exact k l) hi hx hs hf
theorem qs_ret (he : DX X T B e ρ S d S') (k : P.rt d S') : DSs X T B (.Return (some e) pos :: rest) ρ S P := dss_cons (ds_ret he fun d S' ⟨e1, e2⟩ => by subst e1; subst e2; exact k)
theorem qs_retE (he : DE X T B e ρ S Q) (k : ∀ d S', Q d S' → P.rt d S') : DSs X T B (.Return (some e) pos :: rest) ρ S P := dss_cons (ds_ret he k)
theorem qs_exprE (he : DE X T B e ρ S Q) (k : ∀ d S', Q d S' → DSs X T B rest ρ S' P) (hs : swapsWith e none pos.line X.env = pure false := by rfl) : DSs X T B (.Expr e pos :: rest) ρ S P := dss_cons (ds_expr he k hs)
theorem qs_if {k : Bool} (h : DT X T B c ρ S k S1) (h1 : k = true → DSs X T B sts ρ S1 { P with nx := fun ρ S => DSs X T B rest ρ S P }) (h2 : k = false → DSs X T B sts' ρ S1 { P with nx := fun ρ S => DSs X T B rest ρ S P }) : DSs X T B (.If c sts sts' pos :: rest) ρ S P := dss_cons (ds_if h h1 h2)
/-- if, the ways behind it brought together -/
theorem qs_ifJ (J : Rho → Sto → Prop) {k : Bool} (h : DT X T B c ρ S k S1) (h1 : k = true → DSs X T B sts ρ S1 { P with nx := J }) (h2 : k = false → DSs X T B sts' ρ S1 { P with nx := J }) (hJ : ∀ ρ S, J ρ S → DSs X T B rest ρ S P) : DSs X T B (.If c sts sts' pos :: rest) ρ S P :=
  qs_if h (fun e => (h1 e).imp hJ (fun _ _ q => q) (fun _ _ q => q) fun _ _ q => q) fun e => (h2 e).imp hJ (fun _ _ q => q) (fun _ _ q => q) fun _ _ q => q
theorem qs_nil (h : P.nx ρ S) : DSs X T B [] ρ S P := dss_nil h
theorem qs_ap {l : Addr} {n : Nat} {cpos apos : Pos} (ho : DX X T B o ρ S (.ref l) S1) (he : DX X T B e ρ S1 d S2) (h0 : ∃ ys, (l, D.lst ys) ∈ S1) (hk : S2[n]? = some (l, .lst xs)) (hl : xs.length < 100000) (kk : DSs X T B rest ρ (S2.set n (l, .lst (xs ++ [d]))) P)
    (hbase : attributeBase o "append" X.env (eval o X.env) = eval o X.env := by rfl)
    (hfew : ((backTo cpos (starEach (e :: []) X.env)).all (fun x => !x.1) && (backToKw cpos (keywordEach [] X.env)).all (fun x => x.1.isSome)
      && decide ((e :: []).length + ([] : List Keyword).length + (if ([] : List Keyword).isEmpty then 0 else 1) < 30)) = true := by rfl)
    (hline : (apos.endLine == cpos.line) = true := by rfl) (h1 : starEach (e :: []) X.env = (false, eval e X.env) :: starEach [] X.env := by rfl) (hplain : (backTo cpos (starEach [] X.env)).any (·.1) = false := by rfl)
    (hs : swapsWith (.Call (.Attribute o "append" apos) [e] [] cpos) none pos.line X.env = pure false := by rfl) : DSs X T B (.Expr (.Call (.Attribute o "append" apos) [e] [] cpos) pos :: rest) ρ S P :=
  dss_cons (ds_append ho he h0 hk hl kk hbase hfew hline h1 hplain hs)
theorem qs_ix {l : Addr} {n k : Nat} {i : Int} {t1 : Pos} (he : DX X T B e ρ S d S1) (ho : DX X T B o ρ S1 (.ref l) S2) (hi : DX X T B c ρ S2 (.int i) S3) (hk : S3[n]? = some (l, .lst xs)) (hx : ixN xs.length i = some k) (kk : DSs X T B rest ρ (S3.set n (l, .lst (xs.set k d))) P)
    (ha : ∀ v, assign (.Subscript o c t1) X.env v = (do
      let ov ← holding [v] (eval o X.env)
      let iv ← holding [v, ov] (eval c X.env)
      standAt t1
      holding [v, ov, iv] (setItem ov iv v)
      release [v, ov, iv] []) := by intro _; rfl) (hs : swapsWithSole [.Subscript o c t1] e pos.line X.env = pure false := by rfl) (hw : swappedStores [.Subscript o c t1] e X.env = pure none := by rfl)
    (h1 : (assignEach [.Subscript o c t1] X.env).map (·.2) = [assign (.Subscript o c t1) X.env] := by rfl) : DSs X T B (.Assign [.Subscript o c t1] e pos :: rest) ρ S P :=
  dss_cons (ds_setIx he ho hi hk hx kk ha hs hw h1)
/-- for: the turns from one invariant to the next -/
theorem qs_for {iter : Expr} {V : Sto → Prop} (I : Nat → Rho → Sto → Prop) (hp : PassesOwn (model X.prog X.w) X.A X.env X.xe) (hc : X.calm = true) (hi : DI X T B tg iter ρ S xs V S1) (h0 : I 0 ρ S1)
    (hs : ∀ B', B.Le B' → ∀ i x ρ' S', xs[i]? = some x → I i ρ' S' → ∃ ρ2 ix, DG X tg x ρ' ρ2 ix ∧ DSs X T B' sts ρ2 S' { nx := I (i + 1), rt := P.rt, bk := fun ρ S => DSs X T B rest ρ S P, ct := I (i + 1) })
    (hd : ∀ ρ' S', I xs.length ρ' S' → DSs X T B rest ρ' S' P) (hV : ∀ i ρ' S', I i ρ' S' → V S' := by intros; trivial) (hf : ∀ x, foldedSetIterable iter X.env x = pure x := by intro _; rfl) : DSs X T B (.For tg iter sts [] pos :: rest) ρ S P :=
  dss_cons (ds_for I hp hc hi h0 hs hd hV hf)
/-- an expression's two answers -/
theorem DX.de (h : DX X T B e ρ S d S') {P : D → Sto → Prop} (k : P d S') : DE X T B e ρ S P := h.imp fun _ _ ⟨e1, e2⟩ => by subst e1; subst e2; exact k
theorem dx_if {k : Bool} (h : DT X T B c ρ S k S1) (h1 : k = true → DX X T B a ρ S1 y S') (h2 : k = false → DX X T B b ρ S1 z S') : DX X T B (.IfExp c a b pos) ρ S (if k then y else z) S' := by
  refine de_if h (fun e => ?_) fun e => ?_
  · subst e; exact h1 rfl
  · subst e; exact h2 rfl
end
theorem do_none {X : Cx} {T : List Addr} {B : Bk} {ρ : Rho} {S : Sto} : DO X T B none ρ S none S := rfl
theorem do_some {X : Cx} {T : List Addr} {B : Bk} {ρ : Rho} {S S' : Sto} {e : Expr} {i : Int} (h : DX X T B e ρ S (.int i) S') : DO X T B (some e) ρ S (some i) S' := h
theorem at_last {α : Type} {S : List α} {x : α} : (S ++ [x])[S.length]? = some x := by simp
theorem set_last {α : Type} {S : List α} {x y : α} : (S ++ [x]).set S.length y = S ++ [y] := by simp
theorem mem_last {α : Type} {S : List α} {x : α} : x ∈ S ++ [x] := List.mem_append_right _ List.mem_cons_self
theorem at_pre {α : Type} {S : List α} {x y : α} {k : Nat} (h : S[k]? = some y) : (S ++ [x])[k]? = some y := by
  rw [List.getElem?_append_left (List.getElem?_eq_some_iff.mp h).1]; exact h
theorem set_pre {α : Type} {S : List α} {x y z : α} {k : Nat} (h : S[k]? = some y) : (S ++ [x]).set k z = S.set k z ++ [x] := by
  rw [List.set_append_left _ _ (List.getElem?_eq_some_iff.mp h).1]
theorem at_set {α : Type} {S : List α} {y z : α} {k : Nat} (h : S[k]? = some y) : (S.set k z)[k]? = some z := by
  rw [List.getElem?_set_self (List.getElem?_eq_some_iff.mp h).1]
theorem set_same {α : Type} {S : List α} {y : α} {k : Nat} (h : S[k]? = some y) : S.set k y = S := by
  refine List.ext_getElem? fun i => ?_
  by_cases e : k = i
  · subst e; rw [at_set h, h]
  · rw [List.getElem?_set_ne e]
theorem memOf {α : Type} {S : List α} {y : α} {k : Nat} (h : S[k]? = some y) : y ∈ S := List.mem_of_getElem? h
/-- the built-in names that stand for themselves -/
structure BI (mg : Str → Option Value) : Prop where
  len : mg "len" = none
  int : mg "int" = none
  range : mg "range" = none
  list : mg "list" = none
  tuple : mg "tuple" = none
  sorted : mg "sorted" = none
  zip : mg "zip" = none
  all : mg "all" = none
  isinstance : mg "isinstance" = none
  str : mg "str" = none
  bool : mg "bool" = none
end DL
set_option Elab.async false
set_option linter.all false
set_option maxRecDepth 100000
set_option maxHeartbeats 4000000
namespace DL
open PySem PySem.Spec PyProof.Rows L2
section
variable {X : Cx} {T : List Addr} {B : Bk} {e a b c o tg : Expr} {es : List Expr} {st : Stmt} {sts sts' rest : List Stmt} {ρ ρ' : Rho} {S S1 S2 S3 S' : Sto} {d y z : D} {Q : D → Sto → Prop} {P : DEnds} {pos p2 p pos' apos cpos : Pos} {ds xs ys : List D}
/-! ### arguments of which not one answer is known -/
def DAP (X : Cx) (T : List Addr) (B : Bk) (es : List Expr) (ρ : Rho) (S : Sto) (R : List D → Sto → Prop) : Prop := ∀ σ H, Gd X.K T B H S → Slots X.K (mm S) H σ ρ → wA X es σ H fun vs H' => ∃ ds S', R ds S' ∧ Reps X.K (mm S') H' vs ds ∧ Gd X.K T B H' S' ∧ Ext (mm S) (mm S') H H'
theorem dap_nil {R : List D → Sto → Prop} (h : R [] S) : DAP X T B [] ρ S R := fun σ H g s => wA_of pa_nil ⟨[], S, h, .nil, g, Ext.refl _ _⟩
theorem dap_cons {R : List D → Sto → Prop} (ha : DE X T B a ρ S Q) (hr : ∀ d S1, Q d S1 → DAP X T B es ρ S1 fun ds S' => R (d :: ds) S') (hs : starEach (a :: es) X.env = (false, eval a X.env) :: starEach es X.env := by rfl) : DAP X T B (a :: es) ρ S R := fun σ H g s =>
  wA_of (pa_cons pe_w pa_w hs) (wE_mono (ha σ H g s) fun v H1 ⟨d1, T1, hq, r1, g1, x1⟩ => wA_mono (hr d1 T1 hq σ H1 g1 (s.ext x1)) fun vs H2 ⟨ds, S', h, r2, g2, x2⟩ => ⟨_, _, h, .cons (r1.ext x2) r2, g2, x1.trans x2⟩)
theorem dap_x {R : List D → Sto → Prop} (ha : DX X T B a ρ S d S1) (hr : DAP X T B es ρ S1 fun ds S' => R (d :: ds) S') (hs : starEach (a :: es) X.env = (false, eval a X.env) :: starEach es X.env := by rfl) : DAP X T B (a :: es) ρ S R := dap_cons ha (fun _ _ ⟨e1, e2⟩ => by subst e1; subst e2; exact hr) hs
theorem de_callP {CX : CXT} {k : Nat} {x : Str} {ps : List Str} {F : FT} {R : List D → Sto → Prop} {P : D → Sto → Prop} (hF : FN X.prog X.w X.K X.mg X.base T CX k x ps F) (hr : Room k X.A) (hg : Gl X x) (hx : Passes CX X E0) (ha : DAP X T B (e :: es) ρ S R) (h : ∀ ds S1, R ds S1 → F ds S1 P X0) (hdb : (x == ("__debug__" : Str)) = false := by decide) (he : starEach (e :: es) X.env = (false, eval e X.env) :: starEach es X.env := by rfl) (hpl : (backTo pos (starEach es X.env)).any (·.1) = false := by rfl) :
    DE X T B (.Call (.Name x p) (e :: es) [] pos) ρ S P := fun σ H g s => by
  obtain ⟨f, fd, F, hm, hk, hb⟩ := hF.ex
  refine wE_of (pe_call (E := E0) F hr hg hm hk hb .nil hx pa_w hdb he hpl) (wA_mono (ha σ H g s) fun vs H1 ⟨ds, S1, hR, r1, g1, x1⟩ => ?_)
  rw [List.append_nil]
  exact ⟨ds, S1, P, X0, g1.g, r1, h _ _ hR, fun v H' d S' pd g' r' x' => ⟨d, S', pd, r', g1.to x' g', x1.trans x'⟩, .none⟩
/-! ### methods of built-in values -/
theorem dx_bmS {id : String} {r : V → List V → Hp → VK → Prop} {name : Str} {u : Str} {z : D} (slot : Slot "str" name id) (hty : typeOf (.builtin id) = pure (.type "method_descriptor")) (hm : MtR X id r) (ho : DX X T B o ρ S (.str u) S1) (ha : DA X T B (e :: es) ρ S1 ds S2)
    (hr : ∀ H vs, Gd X.K T B H S2 → Reps X.K (mm S2) H vs ds → r (.str u) vs H (Pt X T B H S2 fun d' S'' => d' = z ∧ S'' = S2)) (mono : ∀ x vs H Q Q', (∀ v H', Q v H' → Q' v H') → r x vs H Q → r x vs H Q')
    (hbase : attributeBase o name X.env (eval o X.env) = eval o X.env := by rfl)
    (hfew : ((backTo cpos (starEach (e :: es) X.env)).all (fun x => !x.1) && (backToKw cpos (keywordEach [] X.env)).all (fun x => x.1.isSome)
      && decide ((e :: es).length + ([] : List Keyword).length + (if ([] : List Keyword).isEmpty then 0 else 1) < 30)) = true := by rfl)
    (hline : (apos.endLine == cpos.line) = true := by rfl) (hs : starEach (e :: es) X.env = (false, eval e X.env) :: starEach es X.env := by rfl) (hplain : (backTo cpos (starEach es X.env)).any (·.1) = false := by rfl) :
    DX X T B (.Call (.Attribute o name apos) (e :: es) [] cpos) ρ S z S2 := fun σ H g s =>
  wE_of (pe_bm PySem.F.plainAttrs_str slot hty hm pe_w pa_w hbase hfew hline hs hplain) (wE_mono (ho σ H g s) fun v H1 ⟨d1, T1, ⟨e1, e2⟩, r1, g1, x1⟩ => by
    subst e1; subst e2; cases r1
    exact ⟨rfl, wA_mono (ha σ H1 g1 (s.ext x1)) fun vs H2 ⟨r2, g2, x2⟩ => mono _ _ _ _ _ (fun v H' q => q.after (x1.trans x2)) (hr H2 vs g2 r2)⟩)
/-- text.index(sign) where it is found -/
theorem dx_sindex {u v : Str} {i : Nat} {more : List Nat} (ho : DX X T B o ρ S (.str u) S1) (ha : DX X T B e ρ S1 (.str v) S2) (hi : Builtin.Str.occurrences u v 0 u.length 1 = i :: more)
    (hbase : attributeBase o "index" X.env (eval o X.env) = eval o X.env := by rfl)
    (hfew : ((backTo cpos (starEach (e :: []) X.env)).all (fun x => !x.1) && (backToKw cpos (keywordEach [] X.env)).all (fun x => x.1.isSome)
      && decide ((e :: []).length + ([] : List Keyword).length + (if ([] : List Keyword).isEmpty then 0 else 1) < 30)) = true := by rfl)
    (hline : (apos.endLine == cpos.line) = true := by rfl) (hs : starEach (e :: []) X.env = (false, eval e X.env) :: starEach [] X.env := by rfl) (hplain : (backTo cpos (starEach [] X.env)).any (·.1) = false := by rfl) :
    DX X T B (.Call (.Attribute o "index" apos) [e] [] cpos) ρ S (.int (i : Nat)) S2 :=
  dx_bmS PySem.F.slot_str_index PySem.F.type_str_index mt_sindex ho (da_cons ha da_nil hs) (fun H vs g r => by
    cases r with
    | cons r1 r2 =>
      cases r2; cases r1
      exact ⟨u, v, i, more, rfl, rfl, hi, Pt.here ⟨rfl, rfl⟩ g (.int _)⟩) (fun _ _ _ _ _ m ⟨a, b, i, rest, e1, e2, e3, q⟩ => ⟨a, b, i, rest, e1, e2, e3, m _ _ q⟩) hbase hfew hline hs hplain
/-! ### and, or, where the first is known -/
section
variable {rest : List Expr} {m : Bool}
theorem dw_andF (h : DT X T B a ρ S false S1) : DW X T B (.BoolOp .And (a :: b :: rest) pos) ρ S false S1 := by
  have := dw_and (b := b) (rest := rest) (pos := pos) (m := false) (S' := S1) h (fun e => nomatch e) (fun _ => rfl)
  exact this
theorem dw_andT (h : DT X T B a ρ S true S1) (hr : DW X T B (.BoolOp .And (b :: rest) pos) ρ S1 m S') : DW X T B (.BoolOp .And (a :: b :: rest) pos) ρ S m S' := by
  have := dw_and (b := b) (rest := rest) (pos := pos) h (fun _ => hr) (fun e => nomatch e)
  rw [Bool.true_and] at this
  exact this
theorem dw_orT (h : DT X T B a ρ S true S1) : DW X T B (.BoolOp .Or (a :: b :: rest) pos) ρ S true S1 := by
  have := dw_or (b := b) (rest := rest) (pos := pos) (m := false) (S' := S1) h (fun e => nomatch e) (fun _ => rfl)
  exact this
theorem dw_orF (h : DT X T B a ρ S false S1) (hr : DW X T B (.BoolOp .Or (b :: rest) pos) ρ S1 m S') : DW X T B (.BoolOp .Or (a :: b :: rest) pos) ρ S m S' := by
  have := dw_or (b := b) (rest := rest) (pos := pos) h (fun _ => hr) (fun e => nomatch e)
  rw [Bool.false_or] at this
  exact this
theorem dx_andF (h : DX X T B a ρ S (.bl false) S1) : DX X T B (.BoolOp .And (a :: b :: rest) pos) ρ S (.bl false) S1 := by
  have := dx_and (b := b) (rest := rest) (pos := pos) (m := false) (S' := S1) h (fun e => nomatch e) (fun _ => rfl)
  exact this
theorem dx_andT (h : DX X T B a ρ S (.bl true) S1) (hr : DX X T B (.BoolOp .And (b :: rest) pos) ρ S1 (.bl m) S') : DX X T B (.BoolOp .And (a :: b :: rest) pos) ρ S (.bl m) S' := by
  have := dx_and (b := b) (rest := rest) (pos := pos) h (fun _ => hr) (fun e => nomatch e)
  rw [Bool.true_and] at this
  exact this
theorem dx_orT (h : DX X T B a ρ S (.bl true) S1) : DX X T B (.BoolOp .Or (a :: b :: rest) pos) ρ S (.bl true) S1 := by
  have := dx_or (b := b) (rest := rest) (pos := pos) (m := false) (S' := S1) h (fun e => nomatch e) (fun _ => rfl)
  exact this
theorem dx_orF (h : DX X T B a ρ S (.bl false) S1) (hr : DX X T B (.BoolOp .Or (b :: rest) pos) ρ S1 (.bl m) S') : DX X T B (.BoolOp .Or (a :: b :: rest) pos) ρ S (.bl m) S' := by
  have := dx_or (b := b) (rest := rest) (pos := pos) h (fun _ => hr) (fun e => nomatch e)
  rw [Bool.false_or] at this
  exact this
end
/-! ### tests of which not one answer is known -/
def DTP (X : Cx) (T : List Addr) (B : Bk) (e : Expr) (ρ : Rho) (S : Sto) (R : Bool → Sto → Prop) : Prop := ∀ σ H, Gd X.K T B H S → Slots X.K (mm S) H σ ρ → wT X e σ H fun b' H' => ∃ S', R b' S' ∧ Gd X.K T B H' S' ∧ Ext (mm S) (mm S') H H'
theorem DT.toP {k : Bool} {R : Bool → Sto → Prop} (h : DT X T B e ρ S k S') (r : R k S') : DTP X T B e ρ S R := fun σ H g s => wT_mono (h σ H g s) fun b H' ⟨e1, g', x'⟩ => by subst e1; exact ⟨S', r, g', x'⟩
theorem qs_ifP {R : Bool → Sto → Prop} (h : DTP X T B c ρ S R) (h1 : ∀ S1, R true S1 → DSs X T B sts ρ S1 { P with nx := fun ρ S => DSs X T B rest ρ S P }) (h2 : ∀ S1, R false S1 → DSs X T B sts' ρ S1 { P with nx := fun ρ S => DSs X T B rest ρ S P }) : DSs X T B (.If c sts sts' pos :: rest) ρ S P :=
  dss_cons fun σ H g s => wS_of (ps_if pt_w pss_w pss_w) (wT_mono (h σ H g s) fun b H' ⟨S1, r, g', x'⟩ => by
    cases b with
    | true => rw [if_pos rfl]; exact h1 S1 r σ H' g' (s.ext x')
    | false => rw [if_neg Bool.false_ne_true]; exact h2 S1 r σ H' g' (s.ext x'))
theorem qs_ifPJ (J : Rho → Sto → Prop) {R : Bool → Sto → Prop} (h : DTP X T B c ρ S R) (h1 : ∀ S1, R true S1 → DSs X T B sts ρ S1 { P with nx := J }) (h2 : ∀ S1, R false S1 → DSs X T B sts' ρ S1 { P with nx := J }) (hJ : ∀ ρ S, J ρ S → DSs X T B rest ρ S P) : DSs X T B (.If c sts sts' pos :: rest) ρ S P :=
  qs_ifP h (fun S1 e => (h1 S1 e).imp hJ (fun _ _ q => q) (fun _ _ q => q) fun _ _ q => q) fun S1 e => (h2 S1 e).imp hJ (fun _ _ q => q) (fun _ _ q => q) fun _ _ q => q
/-- a row of texts that stands in the program -/
def strsOf : List Expr → Option (List Str)
  | [] => some []
  | .Constant (.str x) _ _ :: es => (strsOf es).map (x :: ·)
  | _ :: _ => none
theorem da_strs : ∀ {es : List Expr} {ts : List Str}, strsOf es = some ts → DA X T B es ρ S (ts.map D.str) S
  | [], ts, h => by
    cases h
    exact da_nil
  | e :: es, ts, h => by
    cases e with
    | Constant c k p =>
      cases c with
      | str x =>
        obtain ⟨us, h1, rfl⟩ := Option.map_eq_some_iff.mp (show (strsOf es).map (x :: ·) = some ts from h)
        exact da_cons dx_str (da_strs h1) (by rfl)
      | _ => cases h
    | _ => cases h
theorem DT.castS {k : Bool} (h : DT X T B e ρ S k S') (q : S' = S1) : DT X T B e ρ S k S1 := q ▸ h
theorem dx_ixQ {i : Int} (ha : DX X T B a ρ S d S1) (hb : DX X T B b ρ S1 (.int i) S2) (hv : SeqD S2 d xs) (hi : atI xs i = some z) (hs : PlainIx b := by exact fun _ _ => rfl) : DX X T B (.Subscript a b pos) ρ S z S2 := by
  rcases hv with hv | hv
  · exact dx_ixL ha hb hv hi hs
  · subst hv
    exact dx_ixT ha hb hi hs
/-- a <= b <= c as a test -/
theorem dt_leLe {i j k : Int} (ha : DX X T B a ρ S (.int i) S1) (hb : DX X T B b ρ S1 (.int j) S2) (hc : i ≤ j → DX X T B c ρ S2 (.int k) S2)
    (hm1 : lastMarks [CmpOp.LtE, CmpOp.LtE] [b, c] = false := by rfl) : DT X T B (.Compare a [.LtE, .LtE] [b, c] pos) ρ S (decide (i ≤ j) && decide (j ≤ k)) S2 := fun σ H g s => by
  refine wT_of (pt_chain op_le op_le pe_w pe_w pe_w hm1) (wE_mono (ha σ H g s) fun v1 H1 ⟨d1, T1, ⟨e1, e2⟩, r1, g1, x1⟩ => ?_)
  subst e1; subst e2; cases r1
  refine wE_mono (hb σ H1 g1 (s.ext x1)) fun v2 H2 ⟨d2, T2, ⟨e1, e2⟩, r2, g2, x2⟩ => ?_
  subst e1; subst e2; cases r2
  refine ⟨i, j, rfl, rfl, decide (i ≤ j), rfl, ?_⟩
  by_cases h : i ≤ j
  · rw [decide_eq_true h, if_pos rfl, Bool.true_and]
    refine wE_mono (hc h σ H2 g2 (s.ext (x1.trans x2))) fun v3 H3 ⟨d3, T3, ⟨e1, e2⟩, r3, g3, x3⟩ => ?_
    subst e1; subst e2; cases r3
    exact ⟨j, k, rfl, rfl, _, rfl, rfl, g3, (x1.trans x2).trans x3⟩
  · rw [decide_eq_false h, if_neg Bool.false_ne_true, Bool.false_and]
    exact ⟨_, rfl, rfl, g2, x1.trans x2⟩
end
end DL
set_option Elab.async false
set_option linter.all false
set_option maxRecDepth 100000
set_option maxHeartbeats 4000000
namespace SB
open PySem PySem.Spec PyProof.Rows L2 DL
def top (i : Nat) : Stmt := PySem.Challenge.pw_streakbook_k85_least_boxes_judged.main.body.getD i (.Pass ⟨0, 0, 0, 0⟩)
/-! ### the pool -/
def cellOf (n : Int) : Int := if n ≥ 0 then 2 * n else -2 * n - 1
structure Pool where
  a : Int
  g : Int
  s : Int
  cs : List Int
def Pool.l (p : Pool) : List D := [.int p.a, .int p.g, .int p.s, .lst (p.cs.map D.int)]
abbrev Pool.D (p : Pool) : D := .lst p.l
structure Pool.Ok (p : Pool) : Prop where
  a0 : 0 ≤ p.a
  g0 : 0 ≤ p.g
  s0 : 0 ≤ p.s
  s1 : p.s < 2147483647
  c0 : ∀ c ∈ p.cs, 0 ≤ c
  cl : p.cs.length ≤ 63
def Pool.fill (p : Pool) : Pool := if p.g = 0 ∧ p.a < (p.cs.length : Int) then (if 1000000000000000000 ≤ p.cs.getD p.a.toNat 0 then { p with a := p.a + 1, g := p.cs.getD p.a.toNat 0 } else { p with a := p.a + 1, s := (p.s * 48271 + p.cs.getD p.a.toNat 0 * 69621 + 7) % 2147483647 }) else p
/-- what a draw gives, and the pool behind it -/
def Pool.outI (p : Pool) (m : Int) : Int := if 0 < p.g then p.g % m else (p.s * 16807 + 12345) % 2147483647 / 11 % m
def Pool.outP (p : Pool) (m : Int) : Pool := if 0 < p.g then { p with g := p.g / m } else { p with s := (p.s * 16807 + 12345) % 2147483647 }
def Pool.drw (p : Pool) (m : Int) : Int := p.fill.outI m
def Pool.nxt (p : Pool) (m : Int) : Pool := p.fill.outP m
theorem two (x : Int) {y : Int} (h : 0 < y) : 0 ≤ x % y ∧ x % y < y := ⟨Int.emod_nonneg _ (by omega), Int.emod_lt_of_pos _ h⟩
theorem Pool.Ok.cell {p : Pool} (k : p.Ok) (h : p.a < (p.cs.length : Int)) : atI (p.cs.map DL.D.int) p.a = some (.int (p.cs.getD p.a.toNat 0)) ∧ 0 ≤ p.cs.getD p.a.toNat 0 := by
  have h2 : p.a.toNat < p.cs.length := by have := k.a0; omega
  have h3 : p.cs[p.a.toNat]? = some (p.cs.getD p.a.toNat 0) := by rw [List.getD_eq_getElem?_getD, List.getElem?_eq_getElem h2]; rfl
  refine ⟨?_, k.c0 _ (List.mem_of_getElem? h3)⟩
  unfold atI ixN
  rw [if_pos k.a0, List.length_map, if_pos h]
  show (p.cs.map DL.D.int)[p.a.toNat]? = _
  rw [List.getElem?_map, h3]; rfl
theorem Pool.Ok.fill {p : Pool} (k : p.Ok) : p.fill.Ok := by
  unfold Pool.fill
  split
  · rename_i h
    have c0 := (k.cell h.2).2
    have a0 : 0 ≤ p.a + 1 := by have := k.a0; omega
    split
    · exact ⟨a0, c0, k.s0, k.s1, k.c0, k.cl⟩
    · exact ⟨a0, k.g0, (two _ (by decide)).1, (two _ (by decide)).2, k.c0, k.cl⟩
  · exact k
theorem Pool.Ok.outP {p : Pool} (k : p.Ok) {m : Int} (hm : 0 < m) : (p.outP m).Ok := by
  unfold Pool.outP
  split
  · exact ⟨k.a0, Int.ediv_nonneg k.g0 (by omega), k.s0, k.s1, k.c0, k.cl⟩
  · exact ⟨k.a0, k.g0, (two _ (by decide)).1, (two _ (by decide)).2, k.c0, k.cl⟩
theorem Pool.Ok.nxt {p : Pool} (k : p.Ok) {m : Int} (hm : 0 < m) : (p.nxt m).Ok := k.fill.outP hm
theorem Pool.drw_in (p : Pool) {m : Int} (hm : 0 < m) : 0 ≤ p.drw m ∧ p.drw m < m := by
  unfold Pool.drw Pool.outI
  split <;> exact two _ hm
section
variable {P : Program} {w : World} {K : PySem.W.Frag} {mg : Str → Option Value} {base : Heap} {T : List Addr}
abbrev s_law_pool : Stmt := top 45
theorem sc_law_pool : FnScope ["script", "cells", "cell", "number"] ["script"] (defScope s_law_pool) := ⟨rfl, rfl, rfl, by decide +kernel, rfl, by decide +kernel, by decide +kernel⟩
-- script=0 cells=1 cell=2 number=3
def F_pool : FT := fun ds S P _ => ∃ ns : List Int, ds = [.lstQ (ns.map D.int)] ∧ ns.length ≤ 63 ∧ ∀ l p, Pool.Ok p → P (.ref l) (S ++ [(l, p.D)])
theorem fn_pool {f : Addr} {fd : FuncData} (F : Fun K "_law_pool" "_law_pool" s_law_pool f fd) (b : BI mg) (hm : mg "_law_pool" = some (.ref f)) (hb : Binds K fd ["script"] []) : FN P w K mg base T CX0 1 "_law_pool" ["script"] F_pool := by
  refine fn_d F sc_law_pool hm hb (fun ds S P PX h => by obtain ⟨ns, rfl, _⟩ := h; rfl) (fun cdv A outer s H E B ds S Q PX hr hF => ?_)
  obtain ⟨ns, rfl, hn, hQ⟩ := hF
  refine qs_asgN 1 sc_law_pool.nd (dn_lst da_nil (Nat.le_of_ble_eq_true rfl)) fun lc => ?_
  refine qs_for (xs := (ns.map D.int)) (V := fun _ => True) (fun i ρ S' => ∃ u v, ρ = [some (.lstQ (ns.map D.int)), some (.ref lc), u, v] ∧ S' = S ++ [(lc, .lst (((ns.take i).map cellOf).map D.int))]) PassesOwn.never rfl ?_ ⟨_, _, rfl, rfl⟩ ?_ ?_
  · refine di_lst ((DN.dx (dn_sliceQ (dx_var 0 rfl) do_none (do_some dx_int))).cast (congrArg D.lst ?_) rfl)
    show cutD _ none (some ((63 : Nat) : Int)) = _
    rw [cutD_hi, List.take_of_length_le (by rw [List.length_map]; exact hn)]
  · rintro B' hB i x ρ' S' hx ⟨u, v, rfl, rfl⟩
    rw [List.getElem?_map] at hx
    obtain ⟨n, hn1, rfl⟩ := Option.map_eq_some_iff.mp hx
    have hlt : i < ns.length := (List.getElem?_eq_some_iff.mp hn1).1
    have tk : (ns.take (i + 1)).map cellOf = (ns.take i).map cellOf ++ [cellOf n] := by rw [List.take_succ, hn1]; simp
    refine ⟨_, _, dg_name 2 sc_law_pool.nd, ?_⟩
    refine qs_asg 3 sc_law_pool.nd (dx_intI b.int rfl (dx_var 2 rfl)) ?_
    refine qs_ap (n := S.length) (dx_var 1 rfl) (dx_if (dt_ge (dx_var 3 rfl) dx_int) (fun _ => (dx_mul dx_int (dx_var 3 rfl) (.inl (by decide)))) (fun _ => (dx_sub (dx_mul (dx_neg dx_int) (dx_var 3 rfl) (.inl (by decide))) dx_int))) ⟨_, mem_last⟩ at_last (by rw [List.length_map, List.length_map, List.length_take]; omega) (qs_nil ⟨_, _, rfl, ?_⟩)
    rw [set_last, tk, List.map_append]
    show _ = S ++ [(lc, D.lst (_ ++ [D.int (cellOf n)]))]
    unfold cellOf
    by_cases h : (0 : Int) ≤ n
    · simp [h]
    · simp [h]
  · rintro ρ' S' ⟨u, v, rfl, rfl⟩
    rw [List.length_map, List.take_length]
    refine dss_cv (Cv.froz (i := 1) rfl) ?_
    refine qs_retE (dn_lst (da_cons dx_int (da_cons dx_int (da_cons (dx_add dx_int (dx_lenL b.len rfl (dx_var 1 rfl) Vw.rfl')) (da_cons (dx_var 1 rfl) da_nil)))) (Nat.le_of_ble_eq_true rfl)) ?_
    rintro d S' ⟨l, rfl, rfl⟩
    refine ⟨_, _, Fz.refl, ?_⟩
    refine hQ l ⟨0, 0, _, _⟩ ⟨Int.le_refl _, Int.le_refl _, ?_, ?_, fun c hc => ?_, by rw [List.length_map]; exact hn⟩
    · simp; omega
    · simp; omega
    · obtain ⟨n, _, rfl⟩ := List.mem_map.mp hc
      unfold cellOf
      split <;> omega
abbrev s_law_draw : Stmt := top 46
theorem sc_law_draw : FnScope ["pool", "many", "cell", "part"] ["pool", "many"] (defScope s_law_draw) := ⟨rfl, rfl, rfl, by decide +kernel, rfl, by decide +kernel, by decide +kernel⟩
-- pool=0 many=1 cell=2 part=3
def F_draw : FT := fun ds S P _ => ∃ (l : Addr) (k : Nat) (p : Pool) (m : Int), ds = [.ref l, .int m] ∧ p.Ok ∧ S[k]? = some (l, p.D) ∧ 0 < m ∧ m < 1073741824 ∧ P (.int (p.drw m)) (S.set k (l, (p.nxt m).D))
theorem fn_draw {f : Addr} {fd : FuncData} (F : Fun K "_law_draw" "_law_draw" s_law_draw f fd) (b : BI mg) (hm : mg "_law_draw" = some (.ref f)) (hb : Binds K fd ["pool", "many"] []) : FN P w K mg base T CX0 1 "_law_draw" ["pool", "many"] F_draw := by
  refine fn_d F sc_law_draw hm hb (fun ds S P PX h => by obtain ⟨_, _, _, _, rfl, _⟩ := h; rfl) (fun cdv A outer st H E B ds S Q PX hr hF => ?_)
  obtain ⟨l, k, p, m, rfl, ok, hS, hm1, hm2, hQ⟩ := hF
  refine qs_ifJ (fun ρ S' => ∃ u v, ρ = [some (.ref l), some (.int m), u, v] ∧ S' = S.set k (l, p.fill.D)) (DW.dt (dw_and (dt_eqI (dx_ixL (dx_var 0 rfl) dx_int (Vw.own (memOf hS)) rfl) dx_int) (fun _ => (dw_and1 (dt_lt (dx_ixL (dx_var 0 rfl) dx_int (Vw.own (memOf hS)) rfl) (dx_lenL b.len rfl (dx_ixL (dx_var 0 rfl) dx_int (Vw.own (memOf hS)) rfl) Vw.rfl')))) (fun _ => rfl))) (fun e => ?_) (fun e => ?_) ?_
  · have e2 : p.g = 0 ∧ p.a < (p.cs.length : Int) := by simpa using e
    obtain ⟨hc, hc0⟩ := ok.cell e2.2
    refine qs_asg 2 sc_law_draw.nd (dx_ixL (dx_ixL (dx_var 0 rfl) dx_int (Vw.own (memOf hS)) rfl) (dx_ixL (dx_var 0 rfl) dx_int (Vw.own (memOf hS)) rfl) Vw.rfl' hc) ?_
    refine qs_ix (dx_add (dx_ixL (dx_var 0 rfl) dx_int (Vw.own (memOf hS)) rfl) dx_int) (dx_var 0 rfl) dx_int hS rfl ?_
    have hS := at_set (z := (l, ({ p with a := p.a + 1 } : Pool).D)) hS
    have fl := fun (q : Pool) (h : p.fill = q) => h
    refine qs_if (dt_ge (dx_var 2 rfl) dx_int) (fun e3 => ?_) (fun e3 => ?_)
    · have e3 : 1000000000000000000 ≤ p.cs.getD p.a.toNat 0 := by simpa using e3
      refine qs_ix (dx_var 2 rfl) (dx_var 0 rfl) dx_int hS rfl (qs_nil (qs_nil ⟨_, _, rfl, ?_⟩))
      rw [List.set_set]
      unfold Pool.fill
      rw [if_pos e2, if_pos e3]; rfl
    · have e3 : ¬ 1000000000000000000 ≤ p.cs.getD p.a.toNat 0 := by simpa using e3
      refine qs_ix (dx_mod (dx_intI b.int rfl (dx_add (dx_add (dx_mul (dx_ixL (dx_var 0 rfl) dx_int (Vw.own (memOf hS)) rfl) dx_int (.inr (by decide))) (dx_mul (dx_var 2 rfl) dx_int (.inr (by decide)))) dx_int)) dx_int (by decide)) (dx_var 0 rfl) dx_int hS rfl (qs_nil (qs_nil ⟨_, _, rfl, ?_⟩))
      rw [List.set_set]
      unfold Pool.fill
      rw [if_pos e2, if_neg e3]; rfl
  · have e2 : ¬ (p.g = 0 ∧ p.a < (p.cs.length : Int)) := fun z => by simp [z.1, z.2] at e
    refine qs_nil ⟨_, _, rfl, ?_⟩
    unfold Pool.fill
    rw [if_neg e2, set_same hS]
  · rintro ρ S' ⟨u, v, rfl, rfl⟩
    have ok' := ok.fill
    unfold Pool.drw Pool.nxt at hQ
    generalize p.fill = q at hQ ok'
    have hS := at_set (z := (l, q.D)) hS
    refine qs_if (dt_gt (dx_ixL (dx_var 0 rfl) dx_int (Vw.own (memOf hS)) rfl) dx_int) (fun e3 => ?_) (fun e3 => ?_)
    · have e3 : 0 < q.g := by simpa using e3
      refine qs_asg 3 sc_law_draw.nd (dx_mod (dx_intI b.int rfl (dx_ixL (dx_var 0 rfl) dx_int (Vw.own (memOf hS)) rfl)) (dx_var 1 rfl) hm1) ?_
      refine qs_ix (dx_fdiv (dx_ixL (dx_var 0 rfl) dx_int (Vw.own (memOf hS)) rfl) (dx_var 1 rfl) ⟨hm1, hm2⟩) (dx_var 0 rfl) dx_int hS rfl ?_
      refine qs_ret (dx_var 3 rfl) ⟨_, _, Fz.refl, ?_⟩
      rw [List.set_set]
      unfold Pool.outI Pool.outP at hQ
      rw [if_pos e3, if_pos e3] at hQ
      exact hQ
    · have e3 : ¬ 0 < q.g := by simpa using e3
      refine qs_nil ?_
      refine qs_ix (dx_mod (dx_intI b.int rfl (dx_add (dx_mul (dx_ixL (dx_var 0 rfl) dx_int (Vw.own (memOf hS)) rfl) dx_int (.inr (by decide))) dx_int)) dx_int (by decide)) (dx_var 0 rfl) dx_int hS rfl ?_
      have hS := at_set (z := (l, ({ q with s := (q.s * 16807 + 12345) % 2147483647 } : Pool).D)) hS
      refine qs_ret (dx_mod (dx_intI b.int rfl (dx_fdiv (dx_ixL (dx_var 0 rfl) dx_int (Vw.own (memOf hS)) rfl) dx_int ⟨by decide, by decide⟩)) (dx_var 1 rfl) hm1) ⟨_, _, Fz.refl, ?_⟩
      rw [List.set_set]
      unfold Pool.outI Pool.outP at hQ
      rw [if_neg e3, if_neg e3] at hQ
      exact hQ
end
end SB
set_option Elab.async false
set_option linter.all false
set_option maxRecDepth 100000
set_option maxHeartbeats 1000000
namespace SB
open PySem PySem.Spec PyProof.Rows L2 DL
/-! ### names -/
/-- the pool p stands at place k -/
structure PS (S : Sto) (k : Nat) (l : Addr) (p : Pool) : Prop where
  ok : p.Ok
  at_ : S[k]? = some (l, p.D)
theorem PS.nxt {S : Sto} {k : Nat} {l : Addr} {p : Pool} {m : Int} (h : PS S k l p) (hm : 0 < m) : PS (S.set k (l, (p.nxt m).D)) k l (p.nxt m) := ⟨h.ok.nxt hm, at_set h.at_⟩
theorem PS.pre {S : Sto} {k : Nat} {l : Addr} {p : Pool} {x : Addr × D} (h : PS S k l p) : PS (S ++ [x]) k l p := ⟨h.ok, at_pre h.at_⟩
theorem PS.other {S : Sto} {k j : Nat} {l : Addr} {p : Pool} {x : Addr × D} (h : PS S k l p) (hj : j ≠ k) : PS (S.set j x) k l p := ⟨h.ok, by rw [List.getElem?_set_ne hj]; exact h.at_⟩
theorem PS.new {S : Sto} {k : Nat} {l l' : Addr} {p : Pool} {d : D} (h : S[k]? = some (l', d)) (ok : p.Ok) : PS (S.set k (l, p.D)) k l p := ⟨ok, at_set h⟩
section
variable {X : Cx} {T : List Addr} {B : Bk} {a b : Expr} {ρ : Rho} {S : Sto} {pos p2 : Pos} {k : Nat} {l : Addr} {p : Pool} {m : Int}
theorem dx_draw (hd : FN X.prog X.w X.K X.mg X.base T CX0 1 "_law_draw" ["pool", "many"] F_draw) (hr : Room 1 X.A) (ps : PS S k l p) (ha : DX X T B a ρ S (.ref l) S) (hb : DX X T B b ρ S (.int m) S) (hm : 0 < m ∧ m < 1073741824) (hg : Gl X "_law_draw" := by rfl)
    (h1 : starEach [a, b] X.env = (false, eval a X.env) :: starEach [b] X.env := by rfl) (h2 : starEach [b] X.env = (false, eval b X.env) :: starEach [] X.env := by rfl) (hpl : (backTo pos (starEach [b] X.env)).any (·.1) = false := by rfl) : DX X T B (.Call (.Name "_law_draw" p2) [a, b] [] pos) ρ S (.int (p.drw m)) (S.set k (l, (p.nxt m).D)) :=
  de_call hd hr hg pass0 (da_cons ha (da_cons hb da_nil h2) h1) ⟨l, k, p, m, rfl, ps.ok, ps.at_, hm.1, hm.2, rfl, rfl⟩ (he := h1) (hpl := hpl)
end
def isSign (c : Nat) : Bool := (97 ≤ c && c ≤ 122) || (65 ≤ c && c ≤ 90) || (48 ≤ c && c ≤ 57) || c == 95
def smallS : Str := "abcdefghijklmnopqrstuvwxyz"
def tallS : Str := "ABCDEFGHIJKLMNOPQRSTUVWXYZ"
def signS : Str := smallS ++ tallS ++ ("0123456789_" : Str)
def wordsL : List Str := ["ask", "costs", "end", "go", "hard", "heavy", "if", "is", "key", "never", "shows", "share", "stone", "to", "trait"]
def Great (w : Str) : Prop := ∃ c r, w.cps.toList = c :: r ∧ 65 ≤ c ∧ c ≤ 90 ∧ ∀ x ∈ r, isSign x = true
theorem cps_app (u v : Str) : (u ++ v).cps.toList = u.cps.toList ++ v.cps.toList := by
  show (u.cps ++ v.cps).toList = _
  simp
theorem len_app (u v : Str) : (u ++ v).length = u.length + v.length := by
  show (u.cps ++ v.cps).size = _
  rw [Array.size_append]; rfl
theorem Great.app {w : Str} (g : Great w) {c : Nat} (h : isSign c = true) : Great (w ++ ⟨#[c]⟩) := by
  obtain ⟨d, r, e, h1, h2, h3⟩ := g
  refine ⟨d, r ++ [c], by rw [cps_app, e]; rfl, h1, h2, fun x hx => ?_⟩
  rcases List.mem_append.mp hx with q | q
  · exact h3 x q
  · rw [List.mem_singleton.mp q]; exact h
theorem Great.word {w : Str} (g : Great w) : w ∉ wordsL := fun h => by
  obtain ⟨c, r, e, h1, h2, _⟩ := g
  have all : ∀ u ∈ wordsL, 97 ≤ u.cps.toList.headD 0 := by decide +kernel
  have := all w h
  rw [e] at this
  simp at this
  omega
theorem sign_at {i : Int} (h0 : 0 ≤ i) (h1 : i < 63) : ∃ c, atI signS.cps.toList i = some c ∧ isSign c = true := by
  have hl : signS.cps.toList.length = 63 := by decide +kernel
  have all : ∀ c ∈ signS.cps.toList, isSign c = true := by decide +kernel
  have hj : i.toNat < signS.cps.toList.length := by omega
  refine ⟨signS.cps.toList[i.toNat], ?_, all _ (List.getElem_mem hj)⟩
  unfold atI ixN
  rw [if_pos h0, if_pos (by omega)]
  exact List.getElem?_eq_getElem hj
theorem small_at {i : Int} (h0 : 0 ≤ i) (h1 : i < 26) : ∃ c j more d, atI smallS.cps.toList i = some c ∧ Builtin.Str.occurrences smallS ⟨#[c]⟩ 0 smallS.length 1 = j :: more ∧ atI tallS.cps.toList (j : Nat) = some d ∧ 65 ≤ d ∧ d ≤ 90 := by
  have all : ∀ n < 26, ∃ c ∈ smallS.cps.toList, atI smallS.cps.toList ((n : Nat) : Int) = some c ∧ ∃ j ∈ (Builtin.Str.occurrences smallS ⟨#[c]⟩ 0 smallS.length 1).head?.toList, ∃ d ∈ tallS.cps.toList, atI tallS.cps.toList ((j : Nat) : Int) = some d ∧ 65 ≤ d ∧ d ≤ 90 := by decide +kernel
  obtain ⟨c, _, hc, j, hj, d, _, hd, h2, h3⟩ := all i.toNat (by omega)
  have e : ((i.toNat : Nat) : Int) = i := by omega
  rw [e] at hc
  cases ho : Builtin.Str.occurrences smallS ⟨#[c]⟩ 0 smallS.length 1 with
  | nil => rw [ho] at hj; simp at hj
  | cons j' more =>
    rw [ho] at hj
    have : j = j' := by simpa using hj
    subst this
    exact ⟨c, j, more, d, hc, ho, hd, h2, h3⟩
/-- w with i signs x behind it -/
def wx (w : Str) : Nat → Str
  | 0 => w
  | i + 1 => wx w i ++ ("x" : Str)
theorem wx_len (w : Str) : ∀ i, (wx w i).length = w.length + i
  | 0 => rfl
  | i + 1 => by
    show (wx w i ++ ("x" : Str)).length = _
    rw [len_app, wx_len w i]
    show w.length + i + 1 = _
    omega
theorem wx_great {w : Str} (g : Great w) : ∀ i, Great (wx w i)
  | 0 => g
  | i + 1 => (wx_great g i).app (c := 120) (by decide)
theorem wx_out (w : Str) (us : List Str) : ∃ m, m ≤ us.length ∧ wx w m ∉ us ∧ ∀ i, i < m → wx w i ∈ us := by
  have h : ∃ i, i ≤ us.length ∧ wx w i ∉ us := by
    rcases Classical.em (∃ i, i ≤ us.length ∧ wx w i ∉ us) with h | h
    · exact h
    · exfalso
      have all : ∀ i, i ≤ us.length → wx w i ∈ us := fun i hi => by
        rcases Classical.em (wx w i ∈ us) with q | q
        · exact q
        · exact absurd ⟨i, hi, q⟩ h
      have nd : ((List.range (us.length + 1)).map fun i => w.length + i).Nodup := by
        refine List.Pairwise.map _ ?_ (List.nodup_range (n := us.length + 1))
        intro a b hab he
        exact hab (by omega)
      have := nat_nodup_len _ (us.map Str.length) nd fun x hx => by
        obtain ⟨i, hi, rfl⟩ := List.mem_map.mp hx
        exact List.mem_map.mpr ⟨wx w i, all i (by have := List.mem_range.mp hi; omega), wx_len w i⟩
      simp at this
      omega
  obtain ⟨i, hi, hn⟩ := h
  obtain ⟨m, h1, h2, h3⟩ := st_least (p := fun i => wx w i ∉ us) i hn
  exact ⟨m, by omega, h2, fun j hj => Classical.byContradiction fun z => h3 j hj z⟩
/-- how long the names of a row of j can be -/
def nb : Nat → Nat
  | 0 => 5
  | 1 => 5
  | j + 2 => nb (j + 1) + 2 + j
theorem nb_step (j : Nat) : nb (j + 1) = if j = 0 then 5 else nb j + 1 + j := by
  cases j with
  | zero => rfl
  | succ j => show nb (j + 1) + 2 + j = _; rw [if_neg (by omega)]; omega
theorem nb_5 : ∀ j, 5 ≤ nb j
  | 0 => Nat.le_refl _
  | 1 => Nat.le_refl _
  | j + 2 => by have := nb_5 (j + 1); show 5 ≤ nb (j + 1) + 2 + j; omega
/-- names of a field as they are drawn -/
structure Names (us : List Str) : Prop where
  gr : ∀ u ∈ us, Great u
  nd : us.Nodup
  len : ∀ u ∈ us, u.length ≤ nb us.length
  six : us.length ≤ 6
  first : ∀ u, us[0]? = some u → u.length ≤ 5
theorem Names.nil : Names [] := ⟨fun _ h => absurd h List.not_mem_nil, List.nodup_nil, fun _ h => absurd h List.not_mem_nil, Nat.zero_le _, fun _ h => by simp at h⟩
theorem nb_mono {j : Nat} (h : j ≤ 6) : nb j ≤ 25 := by
  have all : ∀ j < 7, nb j ≤ 25 := by decide
  exact all j (by omega)
theorem Names.snoc {us : List Str} {w : Str} (n : Names us) (h6 : us.length < 6) (g : Great w) (hw : w ∉ us) (hl : w.length ≤ nb (us.length + 1)) : Names (us ++ [w]) := by
  have up : nb us.length ≤ nb (us.length + 1) := by
    rw [nb_step]
    split
    · rename_i h; rw [h]; exact Nat.le_refl _
    · omega
  have hlen : (us ++ [w]).length = us.length + 1 := by simp
  refine ⟨fun u hu => ?_, ?_, fun u hu => ?_, by rw [hlen]; omega, fun u hu => ?_⟩
  · rcases List.mem_append.mp hu with q | q
    · exact n.gr u q
    · rw [List.mem_singleton.mp q]; exact g
  · refine List.nodup_append.mpr ⟨n.nd, by simp, fun a ha b hb => ?_⟩
    rw [List.mem_singleton.mp hb]
    exact fun e => hw (e ▸ ha)
  · rw [hlen]
    rcases List.mem_append.mp hu with q | q
    · exact Nat.le_trans (n.len u q) up
    · rw [List.mem_singleton.mp q]; exact hl
  · cases us with
    | nil =>
      have : w = u := by simpa using hu
      rw [← this]; exact hl
    | cons a us => exact n.first u (by simpa using hu)
section
variable {P : Program} {w : World} {K : PySem.W.Frag} {mg : Str → Option Value} {base : Heap} {T : List Addr}
abbrev s_law_name : Stmt := top 47
theorem sc_law_name : FnScope ["pool", "used", "great", "small", "tall", "signs", "word", "k"] ["pool", "used", "great"] (defScope s_law_name) := ⟨rfl, rfl, rfl, by decide +kernel, rfl, by decide +kernel, by decide +kernel⟩
-- pool=0 used=1 great=2 small=3 tall=4 signs=5 word=6 k=7
def F_name : FT := fun ds S P _ => ∃ (lp lu : Addr) (k j : Nat) (p : Pool) (us : List Str), ds = [.ref lp, .ref lu, .bl true] ∧ PS S k lp p ∧ S[j]? = some (lu, .lst (us.map D.str)) ∧ j ≠ k ∧ Names us ∧ us.length < 6 ∧
  ∀ (w : Str) (p' : Pool), p'.Ok → Great w → w ∉ us → w.length ≤ nb (us.length + 1) → P (.str w) ((S.set k (lp, p'.D)).set j (lu, .lst ((us ++ [w]).map D.str)))
theorem fn_name {f : Addr} {fd : FuncData} (F : Fun K "_law_name" "_law_name" s_law_name f fd) (b : BI mg) (hd : FN P w K mg base T CX0 1 "_law_draw" ["pool", "many"] F_draw) (hm : mg "_law_name" = some (.ref f)) (hb : Binds K fd ["pool", "used", "great"] []) : FN P w K mg base T CX0 2 "_law_name" ["pool", "used", "great"] F_name := by
  refine fn_d F sc_law_name hm hb (fun ds S P PX h => by obtain ⟨_, _, _, _, _, _, rfl, _⟩ := h; rfl) (fun cdv A outer st H E B ds S Q PX hr hF => ?_)
  obtain ⟨lp, lu, k, j, p, us, rfl, ps, hj, hjk, nm, h6, hQ⟩ := hF
  refine qs_asg 3 sc_law_name.nd dx_str ?_
  refine qs_asg 4 sc_law_name.nd dx_str ?_
  refine qs_asg 5 sc_law_name.nd (dx_addS (dx_addS (dx_var 3 rfl) (dx_var 4 rfl) (by decide +kernel)) dx_str (by decide +kernel)) ?_
  have lp_of : ∀ q : Pool, q.Ok → PS (S.set k (lp, q.D)) k lp q := fun q ok => ⟨ok, at_set ps.at_⟩
  have lu_of : ∀ q : Pool, (S.set k (lp, q.D))[j]? = some (lu, .lst (us.map D.str)) := fun q => by rw [List.getElem?_set_ne hjk.symm]; exact hj
  have b1 : ∀ {x : Nat}, nb us.length + 1 + us.length = x → us.length ≠ 0 → x = nb (us.length + 1) := fun h h0 => by rw [nb_step, if_neg h0]; exact h.symm
  have n25 : nb us.length ≤ 25 := nb_mono (by omega)
  have n25' : nb (us.length + 1) ≤ 25 := nb_mono (by omega)
  have n5 := nb_5 us.length
  have lenU : (us.map D.str).length = us.length := List.length_map _
  refine qs_ifPJ (fun ρ S' => ∃ (q : Pool) (wd : Str) (v : Option D), q.Ok ∧ Great wd ∧ wd.length + us.length ≤ nb (us.length + 1) ∧ S' = S.set k (lp, q.D) ∧ ρ = [some (.ref lp), some (.ref lu), some (.bl true), some (.str smallS), some (.str tallS), some (.str signS), some (.str wd), v])
    (R := fun kk S1 => ∃ q : Pool, q.Ok ∧ S1 = S.set k (lp, q.D) ∧ (us.length = 0 → kk = false)) ?_ ?_ ?_ ?_
  · by_cases h0 : us.length = 0
    · refine DT.toP (DT.cast (k' := false) (DW.dt (dw_andF (DT.cast (dt_gt (dx_lenL b.len rfl (dx_var 1 rfl) (Vw.own (memOf hj))) dx_int) ?_))) rfl) ⟨p, ps.ok, (set_same ps.at_).symm, fun _ => rfl⟩
      rw [lenU, h0]; rfl
    · refine DT.toP (DW.dt (dw_andT (DT.cast (dt_gt (dx_lenL b.len rfl (dx_var 1 rfl) (Vw.own (memOf hj))) dx_int) ?_) (dw_and1 (dt_eqI (dx_draw hd (hr.mono (by omega)) ps (dx_var 0 rfl) dx_int (by decide)) dx_int)))) ⟨_, ps.ok.nxt (by decide), rfl, fun z => absurd z h0⟩
      rw [lenU]; simp; omega
  · rintro S1 ⟨q, qok, rfl, hz⟩
    have h0 : us.length ≠ 0 := fun z => nomatch hz z
    have q1 := lp_of q qok
    have hj := lu_of q
    obtain ⟨r0, r1⟩ := q.drw_in (m := (us.length : Int)) (by omega)
    have hlt : (q.drw (us.length : Int)).toNat < us.length := by omega
    obtain ⟨u, hu⟩ : ∃ u, us[(q.drw (us.length : Int)).toNat]? = some u := ⟨_, List.getElem?_eq_getElem hlt⟩
    have hu2 : atI (us.map D.str) (q.drw ((us.map D.str).length : Int)) = some (.str u) := by
      rw [lenU]
      unfold atI ixN
      rw [if_pos r0, lenU, if_pos r1]
      show (us.map D.str)[(q.drw (us.length : Int)).toNat]? = _
      rw [List.getElem?_map, hu]; rfl
    have um := List.mem_of_getElem? hu
    obtain ⟨c, hc, sc⟩ := sign_at (i := (q.nxt ((us.map D.str).length : Int)).drw 63) (Pool.drw_in _ (by decide)).1 (Pool.drw_in _ (by decide)).2
    have lu1 := nm.len u um
    have q2 := q1.nxt (m := ((us.map D.str).length : Int)) (by rw [lenU]; omega)
    have hj2 : ((S.set k (lp, q.D)).set k (lp, (q.nxt ((us.map D.str).length : Int)).D))[j]? = some (lu, .lst (us.map D.str)) := by rw [List.getElem?_set_ne hjk.symm]; exact hj
    refine qs_asg 6 sc_law_name.nd (dx_addS (dx_ixL (dx_var 1 rfl) (dx_draw hd (hr.mono (by omega)) q1 (dx_var 0 rfl) (dx_lenL b.len rfl (dx_var 1 rfl) (Vw.own (by first | exact memOf hj2 | exact memOf hj))) ⟨by rw [lenU]; omega, by rw [lenU]; omega⟩) (Vw.own (by first | exact memOf hj2 | exact memOf hj)) hu2) (dx_ixS (dx_var 5 rfl) (dx_draw hd (hr.mono (by omega)) q2 (dx_var 0 rfl) dx_int (by decide)) (by decide +kernel) hc) (by show u.length + 1 ≤ _; omega)) ?_
    refine qs_nil ⟨_, u ++ ⟨#[c]⟩, none, (qok.nxt (m := ((us.map D.str).length : Int)) (by rw [lenU]; omega)).nxt (m := 63) (by decide), (nm.gr u um).app sc, ?_, ?_, rfl⟩
    · rw [len_app]
      show u.length + 1 + us.length ≤ _
      have := b1 rfl h0
      omega
    · rw [List.set_set, List.set_set]
  · rintro S1 ⟨q, qok, rfl, hz⟩
    have q1 := lp_of q qok
    obtain ⟨c, j0, more, d, hc, hoc, hd2, d1, d2⟩ := small_at (Pool.drw_in q (m := 26) (by decide)).1 (Pool.drw_in q (m := 26) (by decide)).2
    refine qs_asg 6 sc_law_name.nd (dx_ixS (dx_var 3 rfl) (dx_draw hd (hr.mono (by omega)) q1 (dx_var 0 rfl) dx_int (by decide)) (by decide +kernel) hc) ?_
    refine qs_if (dt_of (dx_var 2 rfl)) (fun _ => ?_) (fun e => nomatch e)
    refine qs_asg 6 sc_law_name.nd (dx_ixS (dx_var 4 rfl) (dx_sindex (dx_var 3 rfl) (dx_var 6 rfl) hoc) (by decide +kernel) hd2) (qs_nil ?_)
    have q2 := (q1.nxt (m := 26) (by decide))
    have q3 := q2.nxt (m := 5) (by decide)
    obtain ⟨r0, r1⟩ := (q.nxt 26).drw_in (m := 5) (by decide)
    refine qs_for (V := fun _ => True) (xs := rng 0 ((q.nxt 26).drw 5).toNat) (fun i ρ S' => ∃ (q : Pool) (wd : Str) (v : Option D), q.Ok ∧ Great wd ∧ wd.length = 1 + i ∧ S' = S.set k (lp, q.D) ∧ ρ = [some (.ref lp), some (.ref lu), some (.bl true), some (.str smallS), some (.str tallS), some (.str signS), some (.str wd), v]) PassesOwn.never rfl
      (di_range1 rfl b.range (dx_draw hd (hr.mono (by omega)) q2 (dx_var 0 rfl) dx_int (by decide)) (by omega) (by omega)) ⟨_, ⟨#[d]⟩, none, q3.ok, ⟨d, [], rfl, d1, d2, fun _ h => absurd h List.not_mem_nil⟩, rfl, by rw [List.set_set, List.set_set], rfl⟩ ?_ ?_
    · rintro B' hB i x ρ' S' hx ⟨q', wd, v, qok, gw, lw, rfl, rfl⟩
      obtain ⟨hi, rfl⟩ := rng_get hx
      have q1 := lp_of q' qok
      obtain ⟨c, hc, sc⟩ := sign_at (Pool.drw_in q' (m := 63) (by decide)).1 (Pool.drw_in q' (m := 63) (by decide)).2
      refine ⟨_, _, dg_name 7 sc_law_name.nd, ?_⟩
      refine qs_asg 6 sc_law_name.nd (dx_addS (dx_var 6 rfl) (dx_ixS (dx_var 5 rfl) (dx_draw hd (hr.mono (by omega)) q1 (dx_var 0 rfl) dx_int (by decide)) (by decide +kernel) hc) (by show wd.length + 1 ≤ _; omega)) ?_
      refine qs_nil ⟨_, _, _, qok.nxt (m := 63) (by decide), gw.app sc, ?_, by rw [List.set_set], rfl⟩
      rw [len_app]
      show wd.length + 1 = _
      omega
    · rintro ρ' S' ⟨q', wd, v, qok, gw, lw, rfl, rfl⟩
      refine qs_nil ⟨q', wd, v, qok, gw, ?_, rfl, rfl⟩
      rw [rng_length] at lw
      have q5 : ((q.nxt 26).drw 5).toNat ≤ 4 := by omega
      by_cases h0 : us.length = 0
      · rw [nb_step, if_pos h0]; omega
      · rw [nb_step, if_neg h0]; omega
  · rintro ρ S' ⟨q, wd, v, qok, gw, lw, rfl, rfl⟩
    have q1 := lp_of q qok
    have hj := lu_of q
    refine qs_if (k := false) (DT.cast (dt_inTs (ts := wordsL) (dx_var 6 rfl) (dx_tup (da_strs (ts := wordsL) (by decide +kernel)) (by decide +kernel)) (.inr rfl)) (decide_eq_false gw.word)) (fun e => nomatch e) (fun _ => qs_nil ?_)
    obtain ⟨m, m1, m2, m3⟩ := wx_out wd us
    refine qs_for (V := fun _ => True) (xs := rng 0 (((us.map D.str).length : Int) + 1).toNat) (fun i ρ S' => ∃ (v : Option D), S' = S.set k (lp, q.D) ∧ ρ = [some (.ref lp), some (.ref lu), some (.bl true), some (.str smallS), some (.str tallS), some (.str signS), some (.str (wx wd (min i m))), v]) PassesOwn.never rfl
      (di_range1 rfl b.range (dx_add (dx_lenL b.len rfl (dx_var 1 rfl) (Vw.own (by first | exact memOf hj2 | exact memOf hj))) dx_int) (by rw [lenU]; omega) (by rw [lenU]; omega)) ⟨v, rfl, by rw [Nat.zero_min]; rfl⟩ ?_ ?_
    · rintro B' hB i x ρ' S' hx ⟨v, rfl, rfl⟩
      obtain ⟨hi, rfl⟩ := rng_get hx
      refine ⟨_, _, dg_name 7 sc_law_name.nd, ?_⟩
      have lw2 := wx_len wd (min i m)
      refine qs_if (dt_inTs (dx_var 6 rfl) (dx_var 1 rfl) (.inl (Vw.own (by first | exact memOf hj2 | exact memOf hj)))) (fun e => ?_) (fun e => ?_)
      · have e : wx wd (min i m) ∈ us := of_decide_eq_true e
        have hlt : i < m := by
          rcases Nat.lt_or_ge i m with z | z
          · exact z
          · rw [Nat.min_eq_right z] at e; exact absurd e m2
        refine qs_asg 6 sc_law_name.nd (dx_addS (dx_var 6 rfl) dx_str (by show _ + 1 ≤ 100000; omega)) (qs_nil (qs_nil ⟨some (.int (0 + (i : Nat))), rfl, ?_⟩))
        rw [Nat.min_eq_left (Nat.le_of_lt hlt), Nat.min_eq_left hlt]
        rfl
      · have e : ¬ wx wd (min i m) ∈ us := of_decide_eq_false e
        have hge : m ≤ i := by
          rcases Nat.lt_or_ge i m with z | z
          · rw [Nat.min_eq_left (Nat.le_of_lt z)] at e; exact absurd (m3 i z) e
          · exact z
        refine qs_nil (qs_nil ⟨some (.int (0 + (i : Nat))), rfl, ?_⟩)
        rw [Nat.min_eq_right hge, Nat.min_eq_right (by omega)]
        rfl
    · rintro ρ' S' ⟨v, rfl, rfl⟩
      rw [rng_length, lenU, Nat.min_eq_right (by omega)]
      refine qs_ap (n := j) (dx_var 1 rfl) (dx_var 6 rfl) ⟨_, memOf hj⟩ hj (by rw [lenU]; omega) ?_
      refine qs_ret (dx_var 6 rfl) ⟨_, _, Fz.refl, ?_⟩
      rw [← List.map_singleton (f := D.str), ← List.map_append]
      exact hQ _ q qok (wx_great gw m) m2 (by rw [wx_len]; omega)
end
end SB
set_option Elab.async false
set_option linter.all false
set_option maxRecDepth 100000
set_option maxHeartbeats 1000000
namespace SB
open PySem PySem.Spec PyProof.Rows L2 DL
/-! ### fields -/
/-- a field as it is drawn -/
structure FieldOk (most : Nat) (us : List Str) : Prop where
  nm : Names us
  two : 2 ≤ us.length
  most : us.length ≤ most
def fieldD (us : List Str) : D := .tup (us.map D.str)
section
variable {P : Program} {w : World} {K : PySem.W.Frag} {mg : Str → Option Value} {base : Heap} {T : List Addr}
abbrev s_law_fields : Stmt := top 49
theorem sc_law_fields : FnScope ["pool", "count", "most", "fields", "k", "marks", "j"] ["pool", "count", "most"] (defScope s_law_fields) := ⟨rfl, rfl, rfl, by decide +kernel, rfl, by decide +kernel, by decide +kernel⟩
-- pool=0 count=1 most=2 fields=3 k=4 marks=5 j=6
def F_fields : FT := fun ds S P _ => ∃ (lp : Addr) (k : Nat) (p : Pool) (n m : Nat), ds = [.ref lp, .int n, .int m] ∧ PS S k lp p ∧ n ≤ 6 ∧ 2 ≤ m ∧ m ≤ 6 ∧
  ∀ (fs : List (List Str)) (p' : Pool), p'.Ok → fs.length = n → (∀ us ∈ fs, FieldOk m us) → P (.lst (fs.map fieldD)) (S.set k (lp, p'.D))
theorem fn_fields {f : Addr} {fd : FuncData} (F : Fun K "_law_fields" "_law_fields" s_law_fields f fd) (b : BI mg) (hd : FN P w K mg base T CX0 1 "_law_draw" ["pool", "many"] F_draw) (hn : FN P w K mg base T CX0 2 "_law_name" ["pool", "used", "great"] F_name) (hm : mg "_law_fields" = some (.ref f)) (hb : Binds K fd ["pool", "count", "most"] []) : FN P w K mg base T CX0 3 "_law_fields" ["pool", "count", "most"] F_fields := by
  refine fn_d F sc_law_fields hm hb (fun ds S P PX h => by obtain ⟨_, _, _, _, _, rfl, _⟩ := h; rfl) (fun cdv A outer st H E B ds S Q PX hr hF => ?_)
  obtain ⟨lp, k, p, n, m, rfl, ps, hn6, m2, m6, hQ⟩ := hF
  refine qs_asgN 3 sc_law_fields.nd (dn_lst da_nil (Nat.le_of_ble_eq_true rfl)) fun lf => ?_
  have lp_of : ∀ (q : Pool) (x : D), q.Ok → PS (S.set k (lp, q.D) ++ [(lf, x)]) k lp q := fun q x ok => (PS.new ps.at_ ok).pre
  have len_of : ∀ q : Pool, (S.set k (lp, q.D)).length = S.length := fun q => List.length_set
  refine qs_for (V := fun _ => True) (xs := rng 0 ((n : Int)).toNat) (fun i ρ S' => ∃ (q : Pool) (fs : List (List Str)) (u v w : Option D), q.Ok ∧ fs.length = i ∧ (∀ us ∈ fs, FieldOk m us) ∧ S' = S.set k (lp, q.D) ++ [(lf, .lst (fs.map fieldD))] ∧ ρ = [some (.ref lp), some (.int n), some (.int m), some (.ref lf), u, v, w]) PassesOwn.never rfl
    (di_range1 rfl b.range (dx_var 1 rfl) (by omega) (by omega)) ⟨p, [], _, _, _, ps.ok, rfl, fun _ h => absurd h List.not_mem_nil, by rw [set_same ps.at_]; rfl, rfl⟩ ?_ ?_
  · rintro B' hB i x ρ' S' hx ⟨q, fs, u, v, w, qok, hl, hfs, rfl, rfl⟩
    obtain ⟨hi, rfl⟩ := rng_get hx
    refine ⟨_, _, dg_name 4 sc_law_fields.nd, ?_⟩
    refine qs_asgN 5 sc_law_fields.nd (dn_lst da_nil (Nat.le_of_ble_eq_true rfl)) fun lm => ?_
    have q1 := lp_of q (.lst (fs.map fieldD)) qok
    -- a row's first name may be the last row's
    refine qs_ifPJ (fun ρ S' => ∃ (q : Pool) (us : List Str) (lm : Addr) (w : Option D), q.Ok ∧ Names us ∧ us.length ≤ 1 ∧ S' = S.set k (lp, q.D) ++ [(lf, .lst (fs.map fieldD))] ++ [(lm, .lst (us.map D.str))] ∧ ρ = [some (.ref lp), some (.int n), some (.int m), some (.ref lf), some (.int (0 + (i : Nat))), some (.ref lm), w])
      (R := fun kk S1 => ∃ q : Pool, q.Ok ∧ S1 = S.set k (lp, q.D) ++ [(lf, .lst (fs.map fieldD))] ++ [(lm, .lst [])] ∧ (kk = true → 0 < i)) ?_ ?_ ?_ ?_
    · by_cases h0 : i = 0
      · refine DT.toP (DT.cast (k' := false) (DW.dt (dw_andF (DT.cast (dt_gt (dx_var 4 rfl) dx_int) ?_))) rfl) ⟨q, qok, rfl, fun z => nomatch z⟩
        subst h0; rfl
      · refine DT.toP (DW.dt (dw_andT (DT.cast (dt_gt (dx_var 4 rfl) dx_int) ?_) (dw_and1 (dt_eqI (dx_draw hd (hr.mono (by omega)) q1.pre (dx_var 0 rfl) dx_int (by decide)) dx_int)))) ⟨_, qok.nxt (m := 4) (by decide), ?_, fun _ => by omega⟩
        · simp; omega
        · rw [set_pre (at_pre (at_set ps.at_)), set_pre (at_set ps.at_), List.set_set]
    · rintro S1 ⟨q, qok, rfl, hk⟩
      have hk := hk rfl
      have hlt : i - 1 < fs.length := by omega
      obtain ⟨us, hus⟩ : ∃ us, fs[i - 1]? = some us := ⟨_, List.getElem?_eq_getElem hlt⟩
      have ok1 := hfs us (List.mem_of_getElem? hus)
      have hix : atI (fs.map fieldD) (0 + (i : Int) - 1) = some (fieldD us) := by
        unfold atI ixN
        rw [if_pos (by omega), List.length_map, if_pos (by omega)]
        show (fs.map fieldD)[(0 + (i : Int) - 1).toNat]? = _
        rw [show (0 + (i : Int) - 1).toNat = i - 1 by omega, List.getElem?_map, hus]; rfl
      obtain ⟨a, us', rfl⟩ : ∃ a us', us = a :: us' := by
        cases us with
        | nil => have := ok1.two; simp at this
        | cons a us' => exact ⟨a, us', rfl⟩
      have hfd : (lf, D.lst (fs.map fieldD)) ∈ S.set k (lp, q.D) ++ [(lf, .lst (fs.map fieldD))] ++ [(lm, .lst [])] := List.mem_append_left _ mem_last
      refine qs_asgN 5 sc_law_fields.nd (dn_list b.list rfl (dx_slice (dx_ixL (dx_var 3 rfl) (dx_sub (dx_var 4 rfl) dx_int) (Vw.own hfd) hix) do_none (do_some dx_int)) (.inr rfl)) fun lm2 => ?_
      refine dss_cv (Cv.sub (S' := S.set k (lp, q.D) ++ [(lf, .lst (fs.map fieldD))] ++ [(lm2, .lst ([a].map D.str))]) ?_) (qs_nil ⟨q, [a], lm2, _, qok, ?_, Nat.le_refl _, rfl, rfl⟩)
      · rw [show cutD ((a :: us').map D.str) none (some 1) = [a].map D.str from cutD_hi (xs := (a :: us').map D.str) 1]
        exact (List.sublist_append_left _ _).append (List.Sublist.refl _)
      · exact Names.nil.snoc (by decide) (ok1.nm.gr a List.mem_cons_self) (by simp) (ok1.nm.first a rfl)
    · rintro S1 ⟨q, qok, rfl, hk⟩
      exact qs_nil ⟨q, [], lm, _, qok, Names.nil, Nat.zero_le _, rfl, rfl⟩
    · rintro ρ S' ⟨q, us, lm, w, qok, nm, h1, rfl, rfl⟩
      have at2 : ∀ (q : Pool) (x y : D), q.Ok → PS (S.set k (lp, q.D) ++ [(lf, x)] ++ [(lm, y)]) k lp q := fun q x y ok => (lp_of q x ok).pre
      have d1 := (q.drw_in (m := ((m : Int) - 1)) (by omega))
      have hlm : ∀ (q : Pool) (x y : D), (S.set k (lp, q.D) ++ [(lf, x)] ++ [(lm, y)])[S.length + 1]? = some (lm, y) := fun q x y => by
        have : (S.set k (lp, q.D) ++ [(lf, x)]).length = S.length + 1 := by rw [List.length_append, len_of]; rfl
        rw [← this]; exact at_last
      refine qs_for (V := fun _ => True) (xs := rng 0 (2 + q.drw ((m : Int) - 1)).toNat) (fun i' ρ S' => ∃ (q : Pool) (us : List Str) (w : Option D), q.Ok ∧ Names us ∧ us.length ≤ m ∧ min i' 2 ≤ us.length ∧ S' = S.set k (lp, q.D) ++ [(lf, .lst (fs.map fieldD))] ++ [(lm, .lst (us.map D.str))] ∧ ρ = [some (.ref lp), some (.int n), some (.int m), some (.ref lf), some (.int (0 + (i : Nat))), some (.ref lm), w]) PassesOwn.never rfl
        (di_range1 rfl b.range (dx_add dx_int (dx_draw hd (hr.mono (by omega)) (at2 q _ _ qok) (dx_var 0 rfl) (dx_sub (dx_var 2 rfl) dx_int) ⟨by omega, by omega⟩)) (by omega) (by omega)) ⟨q.nxt ((m : Int) - 1), us, _, qok.nxt (by omega), nm, by omega, Nat.zero_le _, ?_, rfl⟩ ?_ ?_
      · rw [set_pre (at_pre (at_set ps.at_)), set_pre (at_set ps.at_), List.set_set]
      · rintro B'' hB2 i' x ρ' S' hx ⟨q, us, w, qok, nm, h1, h2, rfl, rfl⟩
        obtain ⟨hi', rfl⟩ := rng_get hx
        refine ⟨_, _, dg_name 6 sc_law_fields.nd, ?_⟩
        refine qs_if (k := decide ((us.length : Int) < m)) (DT.cast (dt_lt (dx_lenL b.len rfl (dx_var 5 rfl) (Vw.own mem_last)) (dx_var 2 rfl)) (by rw [List.length_map])) (fun e => ?_) (fun e => ?_)
        · have e : us.length < m := by have := of_decide_eq_true e; omega
          refine qs_exprE (de_call hn (hr.mono (by omega)) rfl pass0 (da_cons (dx_var 0 rfl) (da_cons (dx_var 5 rfl) (da_cons dx_bl da_nil))) ⟨lp, lm, k, S.length + 1, q, us, rfl, at2 q _ _ qok, hlm q _ _, ?_, nm, by omega, fun wd q' q'ok gw hw hl => ?_⟩ (P := fun _ S' => ∃ (q : Pool) (us : List Str), q.Ok ∧ Names us ∧ us.length ≤ m ∧ min (i' + 1) 2 ≤ us.length ∧ S' = S.set k (lp, q.D) ++ [(lf, .lst (fs.map fieldD))] ++ [(lm, .lst (us.map D.str))])) ?_
          · have := (List.getElem?_eq_some_iff.mp ps.at_).1; omega
          · refine ⟨q', us ++ [wd], q'ok, nm.snoc (by omega) gw hw hl, by simp; omega, by simp; omega, ?_⟩
            rw [set_pre (at_pre (at_set ps.at_)), set_pre (at_set ps.at_), List.set_set]
            have : (S.set k (lp, q'.D) ++ [(lf, D.lst (fs.map fieldD))]).length = S.length + 1 := by rw [List.length_append, len_of]; rfl
            rw [← this, set_last]
          · rintro d S' ⟨q, us, qok, nm, h1, h2, rfl⟩
            exact qs_nil (qs_nil ⟨q, us, _, qok, nm, h1, h2, rfl, rfl⟩)
        · have e : ¬ us.length < m := fun z => by have := of_decide_eq_false e; omega
          exact qs_nil (qs_nil ⟨q, us, _, qok, nm, h1, by omega, rfl, rfl⟩)
      · rintro ρ' S' ⟨q, us, w, qok, nm, h1, h2, rfl, rfl⟩
        rw [rng_length] at h2
        have hlf : (S.set k (lp, q.D) ++ [(lf, D.lst (fs.map fieldD))] ++ [(lm, .lst (us.map D.str))])[S.length]? = some (lf, .lst (fs.map fieldD)) := by
          rw [← len_of q]; exact at_pre at_last
        refine qs_ap (n := S.length) (dx_var 3 rfl) (dx_tuple b.tuple rfl (dx_var 5 rfl) (.inl (Vw.own mem_last))) ⟨_, memOf hlf⟩ hlf (by simp; omega) (dss_cv (Cv.sub (S' := S.set k (lp, q.D) ++ [(lf, .lst ((fs ++ [us]).map fieldD))]) ?_) (qs_nil ⟨q, fs ++ [us], _, _, _, qok, by simp; omega, fun vs hvs => ?_, rfl, rfl⟩))
        · rw [← len_of q, set_pre at_last, set_last, List.map_append]
          exact List.sublist_append_left _ _
        · rcases List.mem_append.mp hvs with z | z
          · exact hfs vs z
          · rw [List.mem_singleton.mp z]
            exact ⟨nm, by omega, h1⟩
  · rintro ρ' S' ⟨q, fs, u, v, w, qok, hl, hfs, rfl, rfl⟩
    rw [rng_length] at hl
    refine qs_ret (dx_var 3 rfl) ⟨_, _, Fz.last, ?_⟩
    exact hQ fs q qok (by omega) hfs
end
end SB
set_option Elab.async false
set_option linter.all false
set_option maxRecDepth 100000
set_option maxHeartbeats 1000000
namespace SB
open PySem PySem.Spec PyProof.Rows L2 DL
/-! ### hidden boxes -/
def partD (us : List Str) : D := .lst (us.map D.str)
/-- of every field some Names, in the field's order -/
structure HidOk (fs hs : List (List Str)) : Prop where
  len : hs.length = fs.length
  sub : ∀ (i : Nat) h us, hs[i]? = some h → fs[i]? = some us → h ≠ [] ∧ h.Sublist us
theorem HidOk.nil {fs : List (List Str)} : HidOk (fs.take 0) [] := ⟨rfl, fun _ _ _ h _ => by simp at h⟩
theorem HidOk.snoc {fs hs : List (List Str)} {i : Nat} {us h : List Str} (H : HidOk (fs.take i) hs) (hi : fs[i]? = some us) (h1 : h ≠ []) (h2 : h.Sublist us) : HidOk (fs.take (i + 1)) (hs ++ [h]) := by
  have hlt : i < fs.length := (List.getElem?_eq_some_iff.mp hi).1
  have hl : hs.length = i := by rw [H.len, List.length_take]; omega
  refine ⟨by rw [List.length_append, hl, List.length_take]; simp; omega, fun j x vs hx hv => ?_⟩
  rcases Nat.lt_trichotomy j i with c | c | c
  · rw [List.getElem?_append_left (by omega)] at hx
    rw [List.getElem?_take, if_pos (by omega)] at hv
    exact H.sub j x vs hx (by rw [List.getElem?_take, if_pos c]; exact hv)
  · subst c
    rw [List.getElem?_append_right (by omega), hl] at hx
    rw [List.getElem?_take, if_pos (by omega), hi] at hv
    cases hv
    have : h = x := by simpa using hx
    rw [← this]; exact ⟨h1, h2⟩
  · rw [List.getElem?_eq_none (by rw [List.length_append, hl]; simp; omega)] at hx
    cases hx
theorem atI_map {α : Type} (f : α → D) {xs : List α} {r : Int} (h0 : 0 ≤ r) (h1 : r < (xs.length : Int)) : ∃ u, xs[r.toNat]? = some u ∧ atI (xs.map f) r = some (f u) := by
  have hlt : r.toNat < xs.length := by omega
  refine ⟨_, List.getElem?_eq_getElem hlt, ?_⟩
  unfold atI ixN
  rw [if_pos h0, List.length_map, if_pos h1]
  show (xs.map f)[r.toNat]? = _
  rw [List.getElem?_map, List.getElem?_eq_getElem hlt]; rfl
section
variable {P : Program} {w : World} {K : PySem.W.Frag} {mg : Str → Option Value} {base : Heap} {T : List Addr}
abbrev s_law_hidden : Stmt := top 51
theorem sc_law_hidden : FnScope ["pool", "fields", "box", "field", "part", "mark"] ["pool", "fields"] (defScope s_law_hidden) := ⟨rfl, rfl, rfl, by decide +kernel, rfl, by decide +kernel, by decide +kernel⟩
-- pool=0 fields=1 box=2 field=3 part=4 mark=5
def F_hidden : FT := fun ds S P _ => ∃ (lp : Addr) (k : Nat) (p : Pool) (fs : List (List Str)), ds = [.ref lp, .lst (fs.map fieldD)] ∧ PS S k lp p ∧ (∀ us ∈ fs, us ≠ [] ∧ us.length ≤ 6) ∧ fs.length ≤ 6 ∧
  ∀ (hs : List (List Str)) (p' : Pool), p'.Ok → HidOk fs hs → P (.lst (hs.map partD)) (S.set k (lp, p'.D))
theorem fn_hidden {f : Addr} {fd : FuncData} (F : Fun K "_law_hidden" "_law_hidden" s_law_hidden f fd) (b : BI mg) (hd : FN P w K mg base T CX0 1 "_law_draw" ["pool", "many"] F_draw) (hm : mg "_law_hidden" = some (.ref f)) (hb : Binds K fd ["pool", "fields"] []) : FN P w K mg base T CX0 2 "_law_hidden" ["pool", "fields"] F_hidden := by
  refine fn_d F sc_law_hidden hm hb (fun ds S P PX h => by obtain ⟨_, _, _, _, rfl, _⟩ := h; rfl) (fun cdv A outer st H E B ds S Q PX hr hF => ?_)
  obtain ⟨lp, k, p, fs, rfl, ps, hfs, h6, hQ⟩ := hF
  refine qs_asgN 2 sc_law_hidden.nd (dn_lst da_nil (Nat.le_of_ble_eq_true rfl)) fun lb => ?_
  have lp_of : ∀ (q : Pool) (x : D), q.Ok → PS (S.set k (lp, q.D) ++ [(lb, x)]) k lp q := fun q x ok => (PS.new ps.at_ ok).pre
  have len_of : ∀ q : Pool, (S.set k (lp, q.D)).length = S.length := fun q => List.length_set
  have set_of : ∀ (q q' : Pool) (x : Addr × D), (S.set k (lp, q.D) ++ [x]).set k (lp, q'.D) = S.set k (lp, q'.D) ++ [x] := fun q q' x => by rw [set_pre (at_set ps.at_), List.set_set]
  have set_of2 : ∀ (q q' : Pool) (x y : Addr × D), (S.set k (lp, q.D) ++ [x] ++ [y]).set k (lp, q'.D) = S.set k (lp, q'.D) ++ [x] ++ [y] := fun q q' x y => by rw [set_pre (at_pre (at_set ps.at_)), set_of]
  refine qs_for (V := fun _ => True) (xs := fs.map fieldD) (fun i ρ S' => ∃ (q : Pool) (hs : List (List Str)) (u v : Option D), q.Ok ∧ HidOk (fs.take i) hs ∧ S' = S.set k (lp, q.D) ++ [(lb, .lst (hs.map partD))] ∧ ρ = [some (.ref lp), some (.lst (fs.map fieldD)), some (.ref lb), u, v, none]) PassesOwn.never rfl
    (di_lst (dx_var 1 rfl)) ⟨p, [], _, _, ps.ok, HidOk.nil, by rw [set_same ps.at_]; rfl, rfl⟩ ?_ ?_
  · rintro B' hB i x ρ' S' hx ⟨q, hs, u, v, qok, ho, rfl, rfl⟩
    rw [List.getElem?_map] at hx
    obtain ⟨us, hus, rfl⟩ := Option.map_eq_some_iff.mp hx
    obtain ⟨us0, us6⟩ := hfs us (List.mem_of_getElem? hus)
    have hlt : i < fs.length := (List.getElem?_eq_some_iff.mp hus).1
    refine ⟨_, _, dg_name 3 sc_law_hidden.nd, ?_⟩
    refine dss_cons (ds_asgLc (xs := us.map D.str) (V := fun _ => True) (own := [("mark", 5)]) (I := fun j acc S2 => ∃ (q : Pool) (vs : List Str), q.Ok ∧ vs.Sublist (us.take j) ∧ acc = vs.map D.str ∧ S2 = S.set k (lp, q.D) ++ [(lb, .lst (hs.map partD))]) 4 rfl sc_law_hidden.nd
      (di_tup (dx_var 3 rfl)) (blkOk_by (own := [("mark", 5)]) (N := ["pool", "fields", "box", "field", "part", "mark"]) (sc := defScope s_law_hidden) (by decide +kernel)) ⟨⟨q, [], qok, List.Sublist.refl _, rfl, rfl⟩, ?_, fun _ _ _ _ _ => trivial⟩ ?_)
    · rintro j x acc S2 hx ⟨q, vs, qok, hsub, rfl, rfl⟩
      rw [List.getElem?_map] at hx
      obtain ⟨mk, hmk, rfl⟩ := Option.map_eq_some_iff.mp hx
      have tk : us.take (j + 1) = us.take j ++ [mk] := by rw [List.take_succ, hmk]; rfl
      refine ⟨_, _, decide (0 < q.drw 3), S.set k (lp, (q.nxt 3).D) ++ [(lb, .lst (hs.map partD))], ?_, fun s H C cl fp => dg_name 5 sc_law_hidden.nd, fun s H C cl fp B' L hB' => dts_one ?_, fun _ => ⟨.str mk, _, fun s H C cl fp B' L hB' => (dx_var 5 rfl), ?_, ⟨_, vs ++ [mk], qok.nxt (by decide), ?_, ?_, rfl⟩⟩, fun _ => ⟨_, vs, qok.nxt (by decide), ?_, rfl, rfl⟩⟩
      · intro j hj; simpa using hj
      · exact DT.castS (dt_gt (dx_draw hd (hr.mono (by omega)) (lp_of q _ qok).pre (dx_var 0 rfl) dx_int (by decide)) dx_int) (set_of2 _ _ _ _)
      · have := hsub.length_le
        rw [List.length_take] at this
        rw [List.length_map]; omega
      · rw [tk]; exact hsub.append (List.Sublist.refl _)
      · rw [List.map_append]; rfl
      · rw [tk]; exact hsub.trans (List.sublist_append_left _ _)
    · rintro acc S2 l ⟨q, vs, qok, hsub, rfl, rfl⟩
      rw [List.length_map, List.take_length] at hsub
      refine qs_ifJ (fun ρ S' => ∃ (q : Pool) (vs : List Str) (l : Addr), q.Ok ∧ vs.Sublist us ∧ vs ≠ [] ∧ S' = S.set k (lp, q.D) ++ [(lb, .lst (hs.map partD))] ++ [(l, .lst (vs.map D.str))] ∧ ρ = [some (.ref lp), some (.lst (fs.map fieldD)), some (.ref lb), some (fieldD us), some (.ref l), none]) (dt_eqI (dx_lenL b.len rfl (dx_var 4 rfl) (Vw.own mem_last)) dx_int) (fun e => ?_) (fun e => ?_) ?_
      · have h0 : 0 < us.length := List.length_pos_iff.mpr us0
        obtain ⟨d0, d1⟩ := q.drw_in (m := (us.length : Int)) (by omega)
        obtain ⟨u, hu, hu2⟩ := atI_map D.str d0 d1
        have lenU : (us.map D.str).length = us.length := List.length_map _
        refine qs_asgN 4 sc_law_hidden.nd (dn_lst (da_cons (dx_ixT (dx_var 3 rfl) (dx_draw hd (hr.mono (by omega)) (lp_of q _ qok).pre (dx_var 0 rfl) (dx_lenT b.len rfl (dx_var 3 rfl)) ⟨by rw [lenU]; omega, by rw [lenU]; omega⟩) (by rw [lenU]; exact hu2)) da_nil) (Nat.le_of_ble_eq_true rfl)) fun l2 => ?_
        refine dss_cv (Cv.sub (S' := S.set k (lp, (q.nxt ((us.map D.str).length : Int)).D) ++ [(lb, .lst (hs.map partD))] ++ [(l2, .lst ([u].map D.str))]) ?_) (qs_nil ⟨_, [u], l2, qok.nxt (by rw [lenU]; omega), ?_, by simp, rfl, rfl⟩)
        · rw [set_of2]
          exact (List.sublist_append_left _ _).append (List.Sublist.refl _)
        · exact List.singleton_sublist.mpr (List.mem_of_getElem? hu)
      · refine qs_nil ⟨q, vs, l, qok, hsub, fun z => ?_, rfl, rfl⟩
        subst z
        exact absurd e (by simp)
      · rintro ρ S' ⟨q, vs, l, qok, hsub, h0, rfl, rfl⟩
        refine dss_cv (Cv.froz (i := 4) rfl) ?_
        refine qs_ap (n := S.length) (dx_var 2 rfl) (dx_var 4 rfl) ⟨_, mem_last⟩ (by rw [← len_of q]; exact at_last) (by rw [List.length_map, ho.len, List.length_take]; omega) (qs_nil ⟨q, hs ++ [vs], _, _, qok, ho.snoc hus h0 hsub, ?_, rfl⟩)
        rw [← len_of q, set_last, List.map_append]
        rfl
  · rintro ρ' S' ⟨q, hs, u, v, qok, ho, rfl, rfl⟩
    rw [List.length_map, List.take_length] at ho
    refine qs_ret (dx_var 2 rfl) ⟨_, _, Fz.last, ?_⟩
    exact hQ hs q qok ho
end
end SB
set_option Elab.async false
set_option linter.all false
set_option maxRecDepth 100000
set_option maxHeartbeats 1000000
namespace SB
open PySem PySem.Spec PyProof.Rows L2 DL
/-! ### what a box has; told things -/
def hasB (hs : List (List Str)) (ts : List Str) : Bool := (hs.zip ts).all fun p => decide (p.2 ∈ p.1)
theorem hasB_iff {hs : List (List Str)} {ts : List Str} : hasB hs ts = true ↔ ∀ (i : Nat) h t, hs[i]? = some h → ts[i]? = some t → t ∈ h := by
  unfold hasB
  rw [List.all_eq_true]
  constructor
  · intro H i h t h1 h2
    have : (h, t) ∈ hs.zip ts := by
      refine List.mem_of_getElem? (i := i) ?_
      rw [List.getElem?_zip_eq_some]
      exact ⟨h1, h2⟩
    exact of_decide_eq_true (H _ this)
  · rintro H ⟨h, t⟩ hp
    obtain ⟨i, hi⟩ := List.getElem?_of_mem hp
    rw [List.getElem?_zip_eq_some] at hi
    exact decide_eq_true (H i h t hi.1 hi.2)
/-- a thing of the fields -/
structure ThingOk (fs : List (List Str)) (ts : List Str) : Prop where
  len : ts.length = fs.length
  mem : ∀ (i : Nat) us t, fs[i]? = some us → ts[i]? = some t → t ∈ us
theorem ThingOk.nil {fs : List (List Str)} : ThingOk (fs.take 0) [] := ⟨rfl, fun _ _ _ _ h => by simp at h⟩
theorem ThingOk.snoc {fs : List (List Str)} {ts : List Str} {i : Nat} {us : List Str} {t : Str} (H : ThingOk (fs.take i) ts) (hi : fs[i]? = some us) (ht : t ∈ us) : ThingOk (fs.take (i + 1)) (ts ++ [t]) := by
  have hlt : i < fs.length := (List.getElem?_eq_some_iff.mp hi).1
  have hl : ts.length = i := by rw [H.len, List.length_take]; omega
  refine ⟨by rw [List.length_append, hl, List.length_take]; simp; omega, fun j vs x hv hx => ?_⟩
  rcases Nat.lt_trichotomy j i with c | c | c
  · rw [List.getElem?_append_left (by omega)] at hx
    rw [List.getElem?_take, if_pos (by omega)] at hv
    exact H.mem j vs x (by rw [List.getElem?_take, if_pos c]; exact hv) hx
  · subst c
    rw [List.getElem?_append_right (by omega), hl] at hx
    rw [List.getElem?_take, if_pos (by omega), hi] at hv
    cases hv
    have : t = x := by simpa using hx
    rw [← this]; exact ht
  · rw [List.getElem?_eq_none (by rw [List.length_append, hl]; simp; omega)] at hx
    cases hx
theorem ThingOk.of_hid {fs hs : List (List Str)} {ts : List Str} (H : HidOk fs hs) (h : ThingOk hs ts) : ThingOk fs ts := by
  refine ⟨h.len.trans H.len, fun i us t hu ht => ?_⟩
  have hlt : i < hs.length := by rw [H.len]; exact (List.getElem?_eq_some_iff.mp hu).1
  obtain ⟨_, h2⟩ := H.sub i hs[i] us (List.getElem?_eq_getElem hlt) hu
  exact h2.subset (h.mem i _ t (List.getElem?_eq_getElem hlt) ht)
theorem ThingOk.set {fs : List (List Str)} {ts : List Str} {i : Nat} {us : List Str} {t : Str} (H : ThingOk fs ts) (hi : fs[i]? = some us) (ht : t ∈ us) : ThingOk fs (ts.set i t) := by
  refine ⟨by rw [List.length_set]; exact H.len, fun j vs x hv hx => ?_⟩
  by_cases e : i = j
  · subst e
    rw [hi] at hv; cases hv
    rw [List.getElem?_set_self (by rw [H.len]; exact (List.getElem?_eq_some_iff.mp hi).1)] at hx
    cases hx; exact ht
  · rw [List.getElem?_set_ne e] at hx
    exact H.mem j vs x hv hx
section
variable {P : Program} {w : World} {K : PySem.W.Frag} {mg : Str → Option Value} {base : Heap} {T : List Addr}
abbrev s_law_has : Stmt := top 50
theorem sc_law_has : FnScope ["box", "thing", "k"] ["box", "thing"] (defScope s_law_has) := ⟨rfl, rfl, rfl, by decide +kernel, rfl, by decide +kernel, by decide +kernel⟩
-- box=0 thing=1 k=2
def F_has : FT := fun ds S P _ => ∃ (x : D) (hs : List (List Str)) (ts : List Str), ds = [.lst (hs.map partD), x] ∧ SeqD S x (ts.map D.str) ∧ hs.length = ts.length ∧ hs.length ≤ 6 ∧ P (.bl (hasB hs ts)) S
theorem fn_has {f : Addr} {fd : FuncData} (F : Fun K "_law_has" "_law_has" s_law_has f fd) (b : BI mg) (hm : mg "_law_has" = some (.ref f)) (hb : Binds K fd ["box", "thing"] []) : FN P w K mg base T CX0 1 "_law_has" ["box", "thing"] F_has := by
  refine fn_d F sc_law_has hm hb (fun ds S P PX h => by obtain ⟨_, _, _, rfl, _⟩ := h; rfl) (fun cdv A outer st H E B ds S Q PX hr hF => ?_)
  obtain ⟨x, hs, ts, rfl, hx, hl, h6, hQ⟩ := hF
  have lenH : (hs.map partD).length = hs.length := List.length_map _
  refine qs_for (V := fun _ => True) (xs := rng 0 (((hs.map partD).length : Int)).toNat) (fun i ρ S' => ∃ (v : Option D), (∀ (j : Nat) h t, j < i → hs[j]? = some h → ts[j]? = some t → t ∈ h) ∧ S' = S ∧ ρ = [some (.lst (hs.map partD)), some x, v]) PassesOwn.never rfl
    (di_range1 rfl b.range (dx_lenL b.len rfl (dx_var 0 rfl) Vw.rfl') (by omega) (by omega)) ⟨_, fun _ _ _ h => absurd h (Nat.not_lt_zero _), rfl, rfl⟩ ?_ ?_
  · rintro B' hB i x ρ' S' hx' ⟨v, H, rfl, rfl⟩
    obtain ⟨hi, rfl⟩ := rng_get hx'
    have hi : i < hs.length := by omega
    have e0 : (0 + (i : Int)).toNat = i := by omega
    obtain ⟨h, hh, hh2⟩ := atI_map partD (xs := hs) (r := 0 + (i : Int)) (by omega) (by omega)
    obtain ⟨t, ht, ht2⟩ := atI_map D.str (xs := ts) (r := 0 + (i : Int)) (by omega) (by omega)
    rw [e0] at hh ht
    refine ⟨_, _, dg_name 2 sc_law_has.nd, ?_⟩
    refine qs_if (DT.cast (k' := !decide (t ∈ h)) (dt_ninTs (ts := h) (dx_ixQ (dx_var 1 rfl) (dx_var 2 rfl) hx ht2) (dx_ixL (dx_var 0 rfl) (dx_var 2 rfl) Vw.rfl' hh2) (.inl Vw.rfl')) rfl) (fun e => ?_) (fun e => ?_)
    · have e : ¬ t ∈ h := by simpa using e
      refine qs_ret dx_bl ⟨_, _, Fz.refl, ?_⟩
      have : hasB hs ts = false := by
        cases hc : hasB hs ts with
        | false => rfl
        | true => exact absurd (hasB_iff.mp hc i h t hh ht) e
      rw [this] at hQ; exact hQ
    · have e : t ∈ h := by simpa using e
      refine qs_nil (qs_nil ⟨_, fun j h' t' hj h1 h2 => ?_, rfl, rfl⟩)
      rcases Nat.lt_or_ge j i with c | c
      · exact H j h' t' c h1 h2
      · have : j = i := by omega
        subst this
        rw [hh] at h1; rw [ht] at h2
        cases h1; cases h2; exact e
  · rintro ρ' S' ⟨v, H, rfl, rfl⟩
    rw [rng_length] at H
    refine qs_ret dx_bl ⟨_, _, Fz.refl, ?_⟩
    have : hasB hs ts = true := hasB_iff.mpr fun i h t h1 h2 => H i h t (by have := (List.getElem?_eq_some_iff.mp h1).1; omega) h1 h2
    rw [this] at hQ; exact hQ
end
/-- a told thing: thing, bit -/
structure RowOk (fs : List (List Str)) (r : List Str × Int) : Prop where
  th : ThingOk fs r.1
  bit : r.2 = 0 ∨ r.2 = 1
def rowD (r : List Str × Int) : D := .tup [fieldD r.1, .int r.2]
section
variable {P : Program} {w : World} {K : PySem.W.Frag} {mg : Str → Option Value} {base : Heap} {T : List Addr}
abbrev s_law_rows : Stmt := top 52
theorem sc_law_rows : FnScope ["pool", "fields", "box", "many", "rows", "k", "thing", "field", "way", "part", "at", "bit"] ["pool", "fields", "box", "many"] (defScope s_law_rows) := ⟨rfl, rfl, rfl, by decide +kernel, rfl, by decide +kernel, by decide +kernel⟩
-- pool=0 fields=1 box=2 many=3 rows=4 k=5 thing=6 field=7 way=8 part=9 at=10 bit=11
def F_rows : FT := fun ds S P _ => ∃ (lp : Addr) (k : Nat) (p : Pool) (fs hs : List (List Str)) (n : Nat), ds = [.ref lp, .lst (fs.map fieldD), .lst (hs.map partD), .int n] ∧ PS S k lp p ∧ (∀ us ∈ fs, us ≠ [] ∧ us.length ≤ 6) ∧ fs ≠ [] ∧ fs.length ≤ 6 ∧ HidOk fs hs ∧ n ≤ 20 ∧
  ∀ (rs : List (List Str × Int)) (p' : Pool), p'.Ok → rs.length = n → (∀ r ∈ rs, RowOk fs r) → P (.lst (rs.map rowD)) (S.set k (lp, p'.D))
theorem fn_rows {f : Addr} {fd : FuncData} (F : Fun K "_law_rows" "_law_rows" s_law_rows f fd) (b : BI mg) (hd : FN P w K mg base T CX0 1 "_law_draw" ["pool", "many"] F_draw) (hh : FN P w K mg base T CX0 1 "_law_has" ["box", "thing"] F_has) (hm : mg "_law_rows" = some (.ref f)) (hb : Binds K fd ["pool", "fields", "box", "many"] []) : FN P w K mg base T CX0 2 "_law_rows" ["pool", "fields", "box", "many"] F_rows := by
  refine fn_d F sc_law_rows hm hb (fun ds S P PX h => by obtain ⟨_, _, _, _, _, _, rfl, _⟩ := h; rfl) (fun cdv A outer st H E B ds S Q PX hr hF => ?_)
  obtain ⟨lp, k, p, fs, hs, n, rfl, ps, hfs, fs0, h6, hid, hn, hQ⟩ := hF
  refine qs_asgN 4 sc_law_rows.nd (dn_lst da_nil (Nat.le_of_ble_eq_true rfl)) fun lr => ?_
  have len_of : ∀ q : Pool, (S.set k (lp, q.D)).length = S.length := fun q => List.length_set
  have lp_of : ∀ (q : Pool) (x : Addr × D), q.Ok → PS (S.set k (lp, q.D) ++ [x]) k lp q := fun q x ok => (PS.new ps.at_ ok).pre
  have lp_of2 : ∀ (q : Pool) (x y : Addr × D), q.Ok → PS (S.set k (lp, q.D) ++ [x] ++ [y]) k lp q := fun q x y ok => (lp_of q x ok).pre
  have lp_of3 : ∀ (q : Pool) (x y z : Addr × D), q.Ok → PS (S.set k (lp, q.D) ++ [x] ++ [y] ++ [z]) k lp q := fun q x y z ok => (lp_of2 q x y ok).pre
  have set_of : ∀ (q q' : Pool) (x : Addr × D), (S.set k (lp, q.D) ++ [x]).set k (lp, q'.D) = S.set k (lp, q'.D) ++ [x] := fun q q' x => by rw [set_pre (at_set ps.at_), List.set_set]
  have set_of2 : ∀ (q q' : Pool) (x y : Addr × D), (S.set k (lp, q.D) ++ [x] ++ [y]).set k (lp, q'.D) = S.set k (lp, q'.D) ++ [x] ++ [y] := fun q q' x y => by rw [set_pre (at_pre (at_set ps.at_)), set_of]
  have set_of3 : ∀ (q q' : Pool) (x y z : Addr × D), (S.set k (lp, q.D) ++ [x] ++ [y] ++ [z]).set k (lp, q'.D) = S.set k (lp, q'.D) ++ [x] ++ [y] ++ [z] := fun q q' x y z => by rw [set_pre (at_pre (at_pre (at_set ps.at_))), set_of2]
  let st := fun (q : Pool) (rs : List (List Str × Int)) => S.set k (lp, q.D) ++ [(lr, D.lst (rs.map rowD))]
  let ρ0 := fun (i : Nat) (rest : Rho) => ([some (.ref lp), some (.lst (fs.map fieldD)), some (.lst (hs.map partD)), some (.int n), some (.ref lr), some (.int (0 + (i : Nat)))] ++ rest : Rho)
  refine qs_for (V := fun _ => True) (xs := rng 0 ((n : Int)).toNat) (fun i ρ S' => ∃ (q : Pool) (rs : List (List Str × Int)) (a c g d h e f : Option D), q.Ok ∧ rs.length = i ∧ (∀ r ∈ rs, RowOk fs r) ∧ S' = S.set k (lp, q.D) ++ [(lr, D.lst (rs.map rowD))] ∧ ρ = [some (.ref lp), some (.lst (fs.map fieldD)), some (.lst (hs.map partD)), some (.int n), some (.ref lr), a, c, g, d, h, e, f]) PassesOwn.never rfl
    (di_range1 rfl b.range (dx_var 3 rfl) (by omega) (by omega)) ⟨p, [], _, _, _, _, _, _, _, ps.ok, rfl, fun _ h => absurd h List.not_mem_nil, by rw [set_same ps.at_]; rfl, rfl⟩ ?_ ?_
  · rintro B' hB i x ρ' S' hx ⟨q, rs, a, c, g', d, h', e, f, qok, hl, hrs, rfl, rfl⟩
    obtain ⟨hi, rfl⟩ := rng_get hx
    refine ⟨_, _, dg_name 5 sc_law_rows.nd, ?_⟩
    refine dss_cons (ds_asgLc (xs := fs.map fieldD) (V := fun _ => True) (own := [("field", 7)]) (I := fun j acc S2 => ∃ (q : Pool) (ts : List Str), q.Ok ∧ ThingOk (fs.take j) ts ∧ acc = ts.map D.str ∧ S2 = S.set k (lp, q.D) ++ [(lr, D.lst (rs.map rowD))]) 6 rfl sc_law_rows.nd
      (di_lst (dx_var 1 rfl)) (blkOk_by (own := [("field", 7)]) (N := ["pool", "fields", "box", "many", "rows", "k", "thing", "field", "way", "part", "at", "bit"]) (sc := defScope s_law_rows) (by decide +kernel)) ⟨⟨q, [], qok, ThingOk.nil, rfl, rfl⟩, ?_, fun _ _ _ _ _ => trivial⟩ ?_)
    · rintro j x acc S2 hx ⟨q, ts, qok, hts, rfl, rfl⟩
      rw [List.getElem?_map] at hx
      obtain ⟨us, hus, rfl⟩ := Option.map_eq_some_iff.mp hx
      obtain ⟨us0, us6⟩ := hfs us (List.mem_of_getElem? hus)
      have h0 : 0 < us.length := List.length_pos_iff.mpr us0
      have lenU : (us.map D.str).length = us.length := List.length_map _
      obtain ⟨d0, d1⟩ := q.drw_in (m := (us.length : Int)) (by omega)
      obtain ⟨u, hu, hu2⟩ := atI_map D.str d0 d1
      have hj := (List.getElem?_eq_some_iff.mp hus).1
      refine ⟨_, _, true, _, ?_, fun s H C cl fp => dg_name 7 sc_law_rows.nd, fun s H C cl fp B' L hB' => dts_nil, fun _ => ⟨.str u, S.set k (lp, (q.nxt ((us.map D.str).length : Int)).D) ++ [(lr, D.lst (rs.map rowD))], fun s H C cl fp B' L hB' => ?_, ?_, ⟨_, ts ++ [u], qok.nxt (m := ((us.map D.str).length : Int)) (by rw [lenU]; omega), hts.snoc hus (List.mem_of_getElem? hu), ?_, rfl⟩⟩, fun z => nomatch z⟩
      · intro j hj; simpa using hj
      · exact DX.cast (dx_ixT (dx_var 7 rfl) (dx_draw hd (hr.mono (by omega)) (lp_of2 q _ _ qok) (dx_var 0 rfl) (dx_lenT b.len rfl (dx_var 7 rfl)) ⟨by rw [lenU]; omega, by rw [lenU]; omega⟩) (by rw [lenU]; exact hu2)) rfl (set_of2 _ _ _ _)
      · rw [List.length_map, hts.len, List.length_take]; omega
      · rw [List.map_append]; rfl
    · rintro acc S2 lt ⟨q, ts, qok, hts, rfl, rfl⟩
      rw [List.length_map, List.take_length] at hts
      refine qs_asg 8 sc_law_rows.nd (dx_draw hd (hr.mono (by omega)) (lp_of2 q _ _ qok) (dx_var 0 rfl) dx_int (by decide)) ?_
      rw [set_of2]
      have hid6 : hs.length ≤ 6 := by rw [hid.len]; exact h6
      have hpart : ∀ (j : Nat) h, hs[j]? = some h → h ≠ [] ∧ h.length ≤ 6 := fun j h hj => by
        have hlt : j < fs.length := by rw [← hid.len]; exact (List.getElem?_eq_some_iff.mp hj).1
        obtain ⟨h1, h2⟩ := hid.sub j h _ hj (List.getElem?_eq_getElem hlt)
        exact ⟨h1, Nat.le_trans h2.length_le (hfs _ (List.getElem_mem hlt)).2⟩
      have dropM : ∀ (q : Pool) (x y z : Addr × D), (S.set k (lp, q.D) ++ [x] ++ [z]).Sublist (S.set k (lp, q.D) ++ [x] ++ [y] ++ [z]) := fun q x y z => (List.sublist_append_left _ _).append (List.Sublist.refl _)
      have hlr2 : ∀ (q : Pool) (x : D) (y : Addr × D), (S.set k (lp, q.D) ++ [(lr, x)] ++ [y])[S.length]? = some (lr, x) := fun q x y => by rw [← len_of q]; exact at_pre at_last
      have hlr : ∀ (q : Pool) (x : D) (y : Addr × D), (lr, x) ∈ S.set k (lp, q.D) ++ [(lr, x)] ++ [y] := fun q x y => memOf (hlr2 q x y)
      have set_lr : ∀ (q : Pool) (x x' : D) (y : Addr × D), (S.set k (lp, q.D) ++ [(lr, x)] ++ [y]).set S.length (lr, x') = S.set k (lp, q.D) ++ [(lr, x')] ++ [y] := fun q x x' y => by rw [← len_of q, set_pre at_last, set_last]
      have len2 : ∀ (q : Pool) (x : Addr × D), (S.set k (lp, q.D) ++ [x]).length = S.length + 1 := fun q x => by rw [List.length_append, len_of]; rfl
      have hlt : ∀ (q : Pool) (x y : Addr × D), (S.set k (lp, q.D) ++ [x] ++ [y])[S.length + 1]? = some y := fun q x y => by rw [← len2 q x]; exact at_last
      have set_lt : ∀ (q : Pool) (x y y' : Addr × D), (S.set k (lp, q.D) ++ [x] ++ [y]).set (S.length + 1) y' = S.set k (lp, q.D) ++ [x] ++ [y'] := fun q x y y' => by rw [← len2 q x, set_last]
      generalize q.drw 4 = wv
      have qok : (q.nxt 4).Ok := qok.nxt (by decide)
      generalize q.nxt 4 = q at qok
      -- inside the box
      refine qs_ifJ (fun ρ S' => ∃ (q : Pool) (ts : List Str) (lt : Addr) (c d e f : Option D), q.Ok ∧ ThingOk fs ts ∧ S' = S.set k (lp, q.D) ++ [(lr, D.lst (rs.map rowD))] ++ [(lt, .lst (ts.map D.str))] ∧ ρ = [some (.ref lp), some (.lst (fs.map fieldD)), some (.lst (hs.map partD)), some (.int n), some (.ref lr), some (.int (0 + (i : Nat))), some (.ref lt), c, some (.int wv), d, e, f]) (dt_lt (dx_var 8 rfl) dx_int) (fun _ => ?_) (fun _ => qs_nil ⟨q, ts, lt, _, _, _, _, qok, hts, rfl, rfl⟩) ?_
      · refine dss_cons (ds_asgLc (xs := hs.map partD) (V := fun _ => True) (own := [("part", 9)]) (I := fun j acc S2 => ∃ (q : Pool) (us : List Str), q.Ok ∧ ThingOk (hs.take j) us ∧ acc = us.map D.str ∧ S2 = S.set k (lp, q.D) ++ [(lr, D.lst (rs.map rowD))] ++ [(lt, .lst (ts.map D.str))]) 6 rfl sc_law_rows.nd
          (di_lst (dx_var 2 rfl)) (blkOk_by (own := [("part", 9)]) (N := ["pool", "fields", "box", "many", "rows", "k", "thing", "field", "way", "part", "at", "bit"]) (sc := defScope s_law_rows) (by decide +kernel)) ⟨⟨q, [], qok, ThingOk.nil, rfl, rfl⟩, ?_, fun _ _ _ _ _ => trivial⟩ ?_)
        · rintro j x acc S2 hx ⟨q, us, qok, hus, rfl, rfl⟩
          rw [List.getElem?_map] at hx
          obtain ⟨h, hh, rfl⟩ := Option.map_eq_some_iff.mp hx
          obtain ⟨us0, us6⟩ := hpart j h hh
          have h0 : 0 < h.length := List.length_pos_iff.mpr us0
          have lenU : (h.map D.str).length = h.length := List.length_map _
          obtain ⟨d0, d1⟩ := q.drw_in (m := (h.length : Int)) (by omega)
          obtain ⟨u, hu, hu2⟩ := atI_map D.str d0 d1
          have hj := (List.getElem?_eq_some_iff.mp hh).1
          refine ⟨_, _, true, _, ?_, fun s H C cl fp => dg_name 9 sc_law_rows.nd, fun s H C cl fp B' L hB' => dts_nil, fun _ => ⟨.str u, S.set k (lp, (q.nxt ((h.map D.str).length : Int)).D) ++ [(lr, D.lst (rs.map rowD))] ++ [(lt, .lst (ts.map D.str))], fun s H C cl fp B' L hB' => ?_, ?_, ⟨_, us ++ [u], qok.nxt (m := ((h.map D.str).length : Int)) (by rw [lenU]; omega), hus.snoc hh (List.mem_of_getElem? hu), ?_, rfl⟩⟩, fun z => nomatch z⟩
          · intro j hj; simpa using hj
          · exact DX.cast (dx_ixL (dx_var 9 rfl) (dx_draw hd (hr.mono (by omega)) (lp_of3 q _ _ _ qok) (dx_var 0 rfl) (dx_lenL b.len rfl (dx_var 9 rfl) Vw.rfl') ⟨by rw [lenU]; omega, by rw [lenU]; omega⟩) Vw.rfl' (by rw [lenU]; exact hu2)) rfl (set_of3 _ _ _ _ _)
          · rw [List.length_map, hus.len, List.length_take]; omega
          · rw [List.map_append]; rfl
        · rintro acc S2 l2 ⟨q, us, qok, hus, rfl, rfl⟩
          rw [List.length_map, List.take_length] at hus
          exact dss_cv (Cv.sub (dropM q _ _ _)) (qs_nil ⟨q, us, l2, _, _, _, _, qok, hus.of_hid hid, rfl, rfl⟩)
      rintro ρ S' ⟨q, ts, lt, c, d, e, f, qok, hts, rfl, rfl⟩
      -- near a told one
      refine qs_ifJ (fun ρ S' => ∃ (q : Pool) (ts : List Str) (lt : Addr) (c d e f : Option D), q.Ok ∧ ThingOk fs ts ∧ S' = S.set k (lp, q.D) ++ [(lr, D.lst (rs.map rowD))] ++ [(lt, .lst (ts.map D.str))] ∧ ρ = [some (.ref lp), some (.lst (fs.map fieldD)), some (.lst (hs.map partD)), some (.int n), some (.ref lr), some (.int (0 + (i : Nat))), some (.ref lt), c, some (.int wv), d, e, f]) (DW.dt (dw_and (dt_eqI (dx_var 8 rfl) dx_int) (fun _ => (dw_and1 (dt_gt (dx_var 5 rfl) dx_int))) (fun _ => rfl))) (fun ee => ?_) (fun _ => qs_nil ⟨q, ts, lt, _, _, _, _, qok, hts, rfl, rfl⟩) ?_
      · have hk : 0 < i := by
          have := (Bool.and_eq_true_iff.mp ee).2
          have := of_decide_eq_true this
          omega
        obtain ⟨d0, d1⟩ := q.drw_in (m := (0 + (i : Nat) : Int)) (by omega)
        obtain ⟨r, hr', hr2⟩ := atI_map rowD (xs := rs) d0 (by rw [hl]; omega)
        have rok := hrs r (List.mem_of_getElem? hr')
        have hrow : ∀ q' : Pool, (lr, D.lst (rs.map rowD)) ∈ (S.set k (lp, q.D) ++ [(lr, D.lst (rs.map rowD))] ++ [(lt, D.lst (ts.map D.str))]).set k (lp, q'.D) := fun q' => by rw [set_of2]; exact List.mem_append_left _ mem_last
        refine qs_asgN 6 sc_law_rows.nd (dn_list b.list rfl (dx_ixT (dx_ixL (dx_var 4 rfl) (dx_draw hd (hr.mono (by omega)) (lp_of2 q _ _ qok) (dx_var 0 rfl) (dx_var 5 rfl) ⟨by omega, by omega⟩) (Vw.own (hrow _)) hr2) dx_int rfl) (.inr rfl)) fun l2 => ?_
        rw [set_of2]
        have qok : (q.nxt (0 + (i : Nat) : Int)).Ok := qok.nxt (m := (0 + (i : Nat) : Int)) (by omega)
        generalize q.nxt (0 + (i : Nat) : Int) = q at qok
        refine dss_cv (Cv.sub (dropM q _ _ _)) ?_
        have lenF : (fs.map fieldD).length = fs.length := List.length_map _
        have f0 : 0 < fs.length := List.length_pos_iff.mpr fs0
        obtain ⟨e0, e1⟩ := q.drw_in (m := (fs.length : Int)) (by omega)
        obtain ⟨us, hus, hus2⟩ := atI_map fieldD e0 e1
        refine qs_asg 10 sc_law_rows.nd (dx_draw hd (hr.mono (by omega)) (lp_of2 q _ _ qok) (dx_var 0 rfl) (dx_lenL b.len rfl (dx_var 1 rfl) Vw.rfl') ⟨by rw [lenF]; omega, by rw [lenF]; omega⟩) ?_
        rw [set_of2]
        simp only [lenF]
        have qok2 : (q.nxt (fs.length : Int)).Ok := qok.nxt (m := (fs.length : Int)) (by omega)
        generalize q.drw (fs.length : Int) = av at e0 e1 hus hus2
        generalize q.nxt (fs.length : Int) = q at qok2
        obtain ⟨us0, us6⟩ := hfs us (List.mem_of_getElem? hus)
        have h0 : 0 < us.length := List.length_pos_iff.mpr us0
        have lenU : (us.map D.str).length = us.length := List.length_map _
        obtain ⟨g0, g1⟩ := q.drw_in (m := (us.length : Int)) (by omega)
        obtain ⟨u, hu, hu2⟩ := atI_map D.str g0 g1
        have hix : ixN (r.1.map D.str).length av = some av.toNat := by
          unfold ixN
          rw [if_pos e0, List.length_map, rok.th.len, if_pos e1]
        refine qs_ix (n := S.length + 1) (xs := r.1.map D.str) (dx_ixT (dx_ixL (dx_var 1 rfl) (dx_var 10 rfl) Vw.rfl' hus2) (dx_draw hd (hr.mono (by omega)) (lp_of2 q _ _ qok2) (dx_var 0 rfl) (dx_lenT b.len rfl (dx_ixL (dx_var 1 rfl) (dx_var 10 rfl) Vw.rfl' hus2)) ⟨by show 0 < ((us.map D.str).length : Int); rw [lenU]; omega, by show ((us.map D.str).length : Int) < _; rw [lenU]; omega⟩) (by show atI (us.map D.str) (q.drw ((us.map D.str).length : Int)) = _; rw [lenU]; exact hu2)) (dx_var 6 rfl) (dx_var 10 rfl) (by rw [set_of2]; exact hlt _ _ _) hix ?_
        rw [set_of2, set_lt]
        exact qs_nil ⟨_, r.1.set av.toNat u, l2, _, _, _, _, qok2.nxt (m := ((us.map D.str).length : Int)) (by rw [lenU]; omega), rok.th.set hus (List.mem_of_getElem? hu), by rw [List.map_set], rfl⟩
      rintro ρ S' ⟨q, ts, lt, c, d, e, f, qok, hts, rfl, rfl⟩
      -- the bit
      refine qs_asg 11 sc_law_rows.nd dx_int ?_
      have hlt2 : (lt, D.lst (ts.map D.str)) ∈ S.set k (lp, q.D) ++ [(lr, D.lst (rs.map rowD))] ++ [(lt, D.lst (ts.map D.str))] := mem_last
      refine qs_ifJ (fun ρ S' => ∃ (d e : Option D) (bt : Int), (bt = 0 ∨ bt = 1) ∧ S' = S.set k (lp, q.D) ++ [(lr, D.lst (rs.map rowD))] ++ [(lt, D.lst (ts.map D.str))] ∧ ρ = [some (.ref lp), some (.lst (fs.map fieldD)), some (.lst (hs.map partD)), some (.int n), some (.ref lr), some (.int (0 + (i : Nat))), some (.ref lt), c, some (.int wv), d, e, some (.int bt)]) (dt_of (de_call hh (hr.mono (by omega)) rfl pass0 (da_cons (dx_var 2 rfl) (da_cons (dx_var 6 rfl) da_nil)) ⟨.ref lt, hs, ts, rfl, .inl (Vw.own hlt2), by rw [hts.len, hid.len], hid6, rfl, rfl⟩)) (fun _ => ?_) (fun _ => qs_nil ⟨_, _, 0, .inl rfl, rfl, rfl⟩) ?_
      · exact qs_asg 11 sc_law_rows.nd dx_int (qs_nil ⟨_, _, 1, .inr rfl, rfl, rfl⟩)
      rintro ρ S' ⟨d, e, bt, hbt, rfl, rfl⟩
      refine qs_ifPJ (fun ρ S' => ∃ (q : Pool) (d e : Option D) (bt : Int), q.Ok ∧ (bt = 0 ∨ bt = 1) ∧ S' = S.set k (lp, q.D) ++ [(lr, D.lst (rs.map rowD))] ++ [(lt, D.lst (ts.map D.str))] ∧ ρ = [some (.ref lp), some (.lst (fs.map fieldD)), some (.lst (hs.map partD)), some (.int n), some (.ref lr), some (.int (0 + (i : Nat))), some (.ref lt), c, some (.int wv), d, e, some (.int bt)]) (R := fun _ S1 => ∃ q : Pool, q.Ok ∧ S1 = S.set k (lp, q.D) ++ [(lr, D.lst (rs.map rowD))] ++ [(lt, D.lst (ts.map D.str))]) (DT.toP (dt_eqI (dx_draw hd (hr.mono (by omega)) (lp_of2 q _ _ qok) (dx_var 0 rfl) dx_int (by decide)) dx_int) ⟨_, qok.nxt (m := 30) (by decide), set_of2 _ _ _ _⟩) ?_ ?_ ?_
      · rintro S1 ⟨q, qok, rfl⟩
        refine qs_asg 11 sc_law_rows.nd (dx_sub dx_int (dx_var 11 rfl)) (qs_nil ⟨q, _, _, 1 - bt, qok, ?_, rfl, rfl⟩)
        rcases hbt with z | z <;> rw [z]
        · exact .inr rfl
        · exact .inl rfl
      · rintro S1 ⟨q, qok, rfl⟩
        exact qs_nil ⟨q, _, _, bt, qok, hbt, rfl, rfl⟩
      rintro ρ S' ⟨q, d, e, bt, qok, hbt, rfl, rfl⟩
      refine qs_ap (n := S.length) (xs := rs.map rowD) (dx_var 4 rfl) (dx_tup (da_cons (dx_tuple b.tuple rfl (dx_var 6 rfl) (.inl (Vw.own mem_last))) (da_cons (dx_var 11 rfl) da_nil)) (Nat.le_of_ble_eq_true rfl)) ⟨_, hlr _ _ _⟩ (hlr2 _ _ _) (by rw [List.length_map]; omega) (dss_cv (Cv.sub (S' := S.set k (lp, q.D) ++ [(lr, D.lst ((rs ++ [(ts, bt)]).map rowD))]) ?_) (qs_nil ⟨q, rs ++ [(ts, bt)], _, _, _, _, _, _, _, qok, by rw [List.length_append, hl]; rfl, fun r hr => ?_, rfl, rfl⟩))
      · rw [set_lr, List.map_append]
        exact List.sublist_append_left _ _
      · rcases List.mem_append.mp hr with z | z
        · exact hrs r z
        · rw [List.mem_singleton.mp z]; exact ⟨hts, hbt⟩
  · rintro ρ' S' ⟨q, rs, a, c, g', d, h', e, f, qok, hl, hrs, rfl, rfl⟩
    rw [rng_length] at hl
    refine qs_ret (dx_var 4 rfl) ⟨_, _, Fz.last, ?_⟩
    exact hQ rs q qok (by omega) hrs
end
end SB
set_option Elab.async false
set_option linter.all false
set_option maxRecDepth 100000
set_option maxHeartbeats 4000000
namespace DL
open PySem PySem.Spec PyProof.Rows L2
/-! ### defs, their methods -/
/-- a def as such: does F -/
structure FD (P : Program) (w : World) (K : PySem.W.Frag) (mg : Str → Option Value) (base : Heap) (T : List Addr) (CX : CXT) (k : Nat) (f : Addr) (fd : FuncData) (ps : List Str) (F : FT) : Prop where
  ok : FnOk P w K mg base CX k f fd ps (spD K T F)
  b : Binds K fd ps []
section
variable {P : Program} {w : World} {K : PySem.W.Frag} {mg : Str → Option Value} {base : Heap} {T : List Addr} {qual x y : Str} {st : Stmt} {f : Addr} {fd : FuncData} {N ps : List Str} {k : Nat} {F : FT}
theorem FD.fn {CX : CXT} (h : FD P w K mg base T CX k f fd ps F) (hm : mg y = some (.ref f)) (hk : PySem.W.keepIn K (.ref f) = true) : FN P w K mg base T CX k y ps F := ⟨f, fd, h.ok, hm, hk, h.b⟩
/-- the body's reading in the hand layer -/
theorem body_sp {cdv : Value} {A : Around} {outer : List Env} {s : Shared} {H : Hp} {vs : List V} {Q : VK} {E : XK} (h : spD K T F vs H Q E)
    (body : ∀ (B : Bk) (ds : List D) (S : Sto) (Q : D → Sto → Prop) (PX : XP), F ds S Q PX → DSs (cxOf CX0 P w K mg base N qual (defScope st) f cdv A outer s H E).nox T B (defBody st) (startD N ds) S (bodyE Q)) :
    ∃ t, PSs (cxOf CX0 P w K mg base N qual (defScope st) f cdv A outer s H E).nox (defBody st) t ∧ t { nx := fun _ H' => Q .non H', rt := Q } (L2.start N vs) H := by
  obtain ⟨ds, S, P', PX, g, r, hF, hQ, _⟩ := h
  have b := body (Bk.entry H S) ds S P' PX hF (L2.start N vs) H ⟨g, Ext.refl _ _⟩ (slots_start r)
  refine ⟨_, pss_w, wSs_mono b ?_ ?_ (fun _ _ ⟨_, _, p, _⟩ => p.elim) fun _ _ ⟨_, _, p, _⟩ => p.elim⟩
  · rintro σ' H' ⟨ρ', S', ⟨d', S'', fz, p⟩, g', s'⟩
    obtain ⟨g2, r2, m2⟩ := fz _ _ _ .non g'.g .non
    exact hQ _ _ _ _ p g2 r2 (g'.r.less m2)
  · rintro v H' ⟨d, S', ⟨d', S'', fz, p⟩, g', rd⟩
    obtain ⟨g2, r2, m2⟩ := fz _ _ _ _ g'.g rd
    exact hQ _ _ _ _ p g2 r2 (g'.r.less m2)
theorem spD_len {vs : List V} {H : Hp} {Q : VK} {E : XK} (len : ∀ ds S P PX, F ds S P PX → ds.length = ps.length) (h : spD K T F vs H Q E) : vs.length = ps.length := by
  obtain ⟨ds, S, P, PX, g, r, hF, _⟩ := h
  rw [r.length]
  exact len _ _ _ _ hF
/-- a def that raises nothing -/
theorem fd_d (Fn : Fun K x qual st f fd) (Sc : FnScope N ps (defScope st)) (hb : Binds K fd ps []) (len : ∀ ds S P PX, F ds S P PX → ds.length = ps.length)
    (body : ∀ (cdv : Value) (A : Around) (outer : List Env) (s : Shared) (H : Hp) (E : XK) (B : Bk) (ds : List D) (S : Sto) (Q : D → Sto → Prop) (PX : XP), Room k (A.deeper (envOfC qual (defScope st) s.heap.objs.size f cdv)) → F ds S Q PX →
      DSs (cxOf CX0 P w K mg base N qual (defScope st) f cdv A outer s H E).nox T B (defBody st) (startD N ds) S (bodyE Q)) : FD P w K mg base T CX0 (k + 1) f fd ps F :=
  ⟨Fn.ok Sc (fun vs H Q E h => spD_len len h) (fun cdv A outer s H vs Q E hr h => body_sp h fun B ds S Q PX => body cdv A outer s H E B ds S Q PX hr), hb⟩
/-- a def whose code object stands at c -/
structure FunC (K : PySem.W.Frag) (x qual : Str) (st : Stmt) (f : Addr) (fd : FuncData) (c : Addr) : Prop where
  ex : ∃ (oc : Value) (od : Option Addr) (kV doc pm : Value) (an : Option Addr) (ct : Value) (osl : Array (Option Value)),
    fd = PySem.W.fnOf x qual (defArgs st) (defBody st) (defScope st) .none kV doc pm an (.ref c) ct ∧ K.lookup f = some ⟨oc, od, .func fd, osl⟩ ∧ PySem.W.codeIn K (.ref c) qual = true
  kp : PySem.W.keepIn K (.ref f) = true
theorem FunC.fn {c : Addr} (h : FunC K x qual st f fd c) : Fun K x qual st f fd := let ⟨oc, od, kV, doc, pm, an, ct, osl, e, l, q⟩ := h.ex; ⟨⟨oc, od, kV, doc, pm, an, .ref c, ct, osl, e, l, q⟩, h.kp⟩
/-- .. that raises nothing -/
theorem fd_g {c : Addr} (Fn : FunC K x qual st f fd c) (Sc : FnScope N ps (defScope st)) (hb : Binds K fd ps []) (len : ∀ ds S P PX, F ds S P PX → ds.length = ps.length)
    (body : ∀ (A : Around) (outer : List Env) (s : Shared) (H : Hp) (E : XK) (B : Bk) (ds : List D) (S : Sto) (Q : D → Sto → Prop) (PX : XP), Room k (A.deeper (envOfC qual (defScope st) s.heap.objs.size f (.ref c))) → F ds S Q PX →
      DSs (cxOf CX0 P w K mg base N qual (defScope st) f (.ref c) A outer s H E).nox T B (defBody st) (startD N ds) S (bodyE Q)) : FD P w K mg base T CX0 (k + 1) f fd ps F := by
  obtain ⟨oc, od, kV, doc, pm, an, ct, osl, rfl, lk, hcd⟩ := Fn.ex
  refine ⟨fn_of lk hcd Sc (fun vs H Q E h => spD_len len h) fun A outer s H vs Q E hr h => ?_, hb⟩
  obtain ⟨t, h, q⟩ := body_sp (cdv := .ref c) (A := A) (outer := outer) (s := s) (E := E) h fun B ds S Q PX => body A outer s H E B ds S Q PX hr
  exact ⟨t, h.nox, q⟩
/-- a method m of the class at C that does F, the instance ahead -/
structure FM (P : Program) (w : World) (K : PySem.W.Frag) (mg : Str → Option Value) (base : Heap) (T : List Addr) (CX : CXT) (k : Nat) (C : Addr) (m : Str) (ps : List Str) (F : FT) : Prop where
  ex : ∃ f fd, FD P w K mg base T CX k f fd ps F ∧ Meth K C m f
/-- the class at C is made by a def that does F -/
structure FI (P : Program) (w : World) (K : PySem.W.Frag) (mg : Str → Option Value) (base : Heap) (T : List Addr) (CX : CXT) (k : Nat) (C : Addr) (ps : List Str) (F : FT) : Prop where
  ex : ∃ f fd, FD P w K mg base T CX k f fd ps F ∧ Mk K C f
end
section
variable {X : Cx} {T : List Addr} {B : Bk} {e a b c o tg : Expr} {es : List Expr} {st : Stmt} {sts sts' rest : List Stmt} {ρ ρ' : Rho} {S S1 S2 S3 S' : Sto} {d y z : D} {Q P : D → Sto → Prop} {PE : DEnds} {pos p2 p pos' apos cpos : Pos} {ds xs ys : List D} {C : Addr} {gs : List (Str × D)} {f : Str} {m : Str} {k : Nat} {ps : List Str} {F : FT}
/-! ### globals of the program -/
theorem dx_gI {x : Str} {i : Int} (hg : Gl X x) (hm : ∃ t, X.mg x = some (.int i t)) (hd : (x == ("__debug__" : Str)) = false := by decide) : DX X T B (.Name x pos) ρ S (.int i) S := let ⟨t, h⟩ := hm; dx_glob (v := .int i) hg h ⟨t, rfl⟩ (fun _ _ => .int i) hd
theorem dx_gS {x u : Str} (hg : Gl X x) (hm : ∃ t, X.mg x = some (.str u t)) (hd : (x == ("__debug__" : Str)) = false := by decide) : DX X T B (.Name x pos) ρ S (.str u) S := let ⟨t, h⟩ := hm; dx_glob (v := .str u) hg h ⟨t, rfl⟩ (fun _ _ => .str u) hd
theorem dx_gTs {x : Str} {ts : List Str} (hg : Gl X x) (hm : ∃ a, X.mg x = some (.ref a) ∧ KTup X.K a (ts.map V.str)) (hd : (x == ("__debug__" : Str)) = false := by decide) : DX X T B (.Name x pos) ρ S (.tup (ts.map D.str)) S := let ⟨a, h, t⟩ := hm; dx_glob (v := .ref a) hg h rfl (fun _ _ => .tupK t (Reps.ofStrs ts)) hd
/-! ### instances -/
theorem Vw.obj {K : PySem.W.Frag} {H : Hp} {v : V} (h : Vw S d (.obj C gs)) (g : GoodS K T H S) (r : Rep K (mm S) H v d) : ∃ a dx fs, v = .ref a ∧ H a = some (.ins C dx fs) ∧ fs.map (·.1) = gs.map (·.1) ∧ Reps K (mm S) H (fs.map (·.2)) (gs.map (·.2)) := by
  rcases h with h | ⟨l, h, hm⟩
  · subst h
    cases r with
    | obj n h1 h2 h3 => exact ⟨_, _, _, rfl, h1, h2, h3⟩
  · subst h
    cases r
    obtain ⟨dx, fs, h1, h2, h3⟩ := g.own _ hm
    exact ⟨l, dx, fs, rfl, h1, h2, h3⟩
theorem look_fld {K : PySem.W.Frag} {M : List Addr} {H : Hp} : ∀ {fs : List (Str × V)} {gs : List (Str × D)}, fs.map (·.1) = gs.map (·.1) → Reps K M H (fs.map (·.2)) (gs.map (·.2)) → ∀ {f : Str} {z : D}, gs.lookup f = some z → ∃ v, fs.lookup f = some v ∧ Rep K M H v z
  | [], [], _, _, _, _, h => by cases h
  | [], _ :: _, e, _, _, _, _ => by cases e
  | _ :: _, [], e, _, _, _, _ => by cases e
  | (x, v) :: fs, (y, d) :: gs, e, r, f, z, h => by
    have e1 : x = y := by simpa using congrArg List.head? e
    have e2 : fs.map (·.1) = gs.map (·.1) := by simpa using congrArg List.tail e
    subst e1
    cases r with
    | cons r1 r2 =>
      rw [List.lookup_cons] at h ⊢
      cases hc : f == x with
      | true => rw [hc] at h; simp at h; subst h; exact ⟨v, by simp, r1⟩
      | false => rw [hc] at h; simp at h; simpa using look_fld e2 r2 h
theorem look_none : ∀ {fs : List (Str × V)} {gs : List (Str × D)}, fs.map (·.1) = gs.map (·.1) → ∀ {f : Str}, gs.lookup f = none → fs.lookup f = none
  | [], [], _, _, _ => rfl
  | [], _ :: _, e, _, _ => by cases e
  | _ :: _, [], e, _, _ => by cases e
  | (x, v) :: fs, (y, d) :: gs, e, f, h => by
    have e1 : x = y := by simpa using congrArg List.head? e
    have e2 : fs.map (·.1) = gs.map (·.1) := by simpa using congrArg List.tail e
    subst e1
    rw [List.lookup_cons] at h ⊢
    cases hc : f == x with
    | true => rw [hc] at h; cases h
    | false => rw [hc] at h; exact look_none e2 h
/-- o.f -/
theorem dx_fld (ho : DX X T B o ρ S d S1) (hv : Vw S1 d (.obj C gs)) (c : Cls X.K C) (n : NoAttr X.K C f) (hl : gs.lookup f = some z) (hb : attributeBase o f X.env (eval o X.env) = eval o X.env := by rfl) : DX X T B (.Attribute o f pos) ρ S z S1 := fun σ H g s =>
  wE_of (pe_fld pe_w hb) (wE_mono (ho σ H g s) fun v H1 ⟨d1, T1, ⟨e1, e2⟩, r1, g1, x1⟩ => by
    subst e1; subst e2
    obtain ⟨a, dx, fs, e3, h1, h2, h3⟩ := hv.obj g1.g r1
    subst e3
    obtain ⟨w, hw, rw'⟩ := look_fld h2 h3 hl
    exact ⟨a, C, dx, fs, w, rfl, h1, c, n, hw, _, _, ⟨rfl, rfl⟩, rw', g1, x1⟩)
def putD (f : Str) (d : D) : List (Str × D) → List (Str × D)
  | [] => [(f, d)]
  | (g, x) :: r => if g = f then (g, d) :: r else (g, x) :: putD f d r
theorem put_rep {K : PySem.W.Frag} {M : List Addr} {H : Hp} {v : V} (rv : Rep K M H v d) : ∀ {fs : List (Str × V)} {gs : List (Str × D)}, fs.map (·.1) = gs.map (·.1) → Reps K M H (fs.map (·.2)) (gs.map (·.2)) → (putF f v fs).map (·.1) = (putD f d gs).map (·.1) ∧ Reps K M H ((putF f v fs).map (·.2)) ((putD f d gs).map (·.2))
  | [], [], _, _ => ⟨rfl, .cons rv .nil⟩
  | [], _ :: _, e, _ => by cases e
  | _ :: _, [], e, _ => by cases e
  | (x, u) :: fs, (y, c) :: gs, e, r => by
    have e1 : x = y := by simpa using congrArg List.head? e
    have e2 : fs.map (·.1) = gs.map (·.1) := by simpa using congrArg List.tail e
    subst e1
    cases r with
    | cons r1 r2 =>
      unfold putF putD
      by_cases hc : x = f
      · rw [if_pos hc, if_pos hc]
        exact ⟨by simp [e2], .cons rv r2⟩
      · rw [if_neg hc, if_neg hc]
        obtain ⟨h1, h2⟩ := put_rep rv e2 r2
        exact ⟨by simp [h1], .cons r1 h2⟩
/-- o.f = e, o owned -/
theorem qs_fld {l : Addr} {n : Nat} (he : DX X T B e ρ S d S1) (ho : DX X T B o ρ S1 (.ref l) S2) (hk : S2[n]? = some (l, .obj C gs)) (c : Cls X.K C) (na : NoAttr X.K C f) (hlen : gs.length < 1000) (kk : DSs X T B rest ρ (S2.set n (l, .obj C (putD f d gs))) PE)
    (hs : swapsWith e (some (.Attribute o f pos')) pos.line X.env = pure false := by rfl) : DSs X T B (.Assign [.Attribute o f pos'] e pos :: rest) ρ S PE :=
  dss_cons fun σ H g s => wS_of (ps_fld pe_w pe_w hs) (wE_mono (he σ H g s) fun v H1 ⟨d1, T1, ⟨e1, e2⟩, r1, g1, x1⟩ => by
    subst e1; subst e2
    refine wE_mono (ho σ H1 g1 (s.ext x1)) fun v2 H2 ⟨d2, T2, ⟨e3, e4⟩, r2, g2, x2⟩ => ?_
    subst e3; subst e4; cases r2
    obtain ⟨dx, fs, h1, h2, h3⟩ := g2.g.own _ (List.mem_of_getElem? hk)
    have hl2 : fs.length = gs.length := by rw [← List.length_map (f := (·.1)), h2, List.length_map]
    have xw : Ext (mm T2) (mm T2) H2 (upd H2 l (.ins C dx (putF f v fs))) := by
      have := Ext.write (o := .ins C dx (putF f v fs)) (d := .obj C (putD f d1 gs)) g2.g hk
      rw [mm_set _ _ _ _ _ hk] at this
      exact this
    obtain ⟨q1, q2⟩ := put_rep (f := f) (r1.ext x2) h2 h3
    have gw := g2.g.write (o := .ins C dx (putF f v fs)) (d := .obj C (putD f d1 gs)) hk ⟨dx, _, upd_same, q1, q2.ext xw⟩
    have xw2 := Ext.write (o := .ins C dx (putF f v fs)) (d := .obj C (putD f d1 gs)) g2.g hk
    exact ⟨l, C, dx, fs, rfl, h1, c, na, by rw [hl2]; exact hlen, ρ, _, kk, g2.to xw2 gw, s.ext ((x1.trans x2).trans xw2)⟩)
/-- o.m(e, ..) -/
theorem de_meth {CX : CXT} {pl : Sem Bool} (hF : FM X.prog X.w X.K X.mg X.base T CX k C m ps F) (hr : Room k X.A) (c : Cls X.K C) (hx : Passes CX X E0) (ho : DX X T B o ρ S d S1) (hv : Vw S1 d (.obj C gs)) (hn : gs.lookup m = none) (ha : DA X T B (e :: es) ρ S1 ds S2) (h : F (d :: ds) S2 P X0)
    (hst : starEach (e :: es) X.env = (false, eval e X.env) :: starEach es X.env := by rfl) (hpl : (backTo pos (starEach es X.env)).any (·.1) = false := by rfl)
    (ht : eval (.Call (.Attribute o m apos) (e :: es) [] pos) X.env = (do
      let ov ← eval o X.env
      standAt apos.atName
      let (f, first) ← holding [ov] (getMethod ov m pl)
      callWith pos f first (backTo pos (starEach (e :: es) X.env)) (backToKw pos (keywordEach [] X.env))) := by rfl) : DE X T B (.Call (.Attribute o m apos) (e :: es) [] pos) ρ S P := fun σ H g s => by
  obtain ⟨f, fd, F, hm⟩ := hF.ex
  refine wE_of (pe_meth (pl := pl) (E := E0) pe_w c hm F.ok hr F.b .nil hx pa_w hst hpl ht) (wE_mono (ho σ H g s) fun v H1 ⟨d1, T1, ⟨e1, e2⟩, r1, g1, x1⟩ => ?_)
  subst e1; subst e2
  obtain ⟨a, dx, fs, e3, h1, h2, h3⟩ := hv.obj g1.g r1
  subst e3
  refine ⟨a, dx, fs, rfl, h1, look_none h2 hn, wA_mono (ha σ H1 g1 (s.ext x1)) fun vs H2 ⟨r2, g2, x2⟩ => ?_⟩
  rw [List.append_nil]
  exact ⟨_ :: ds, _, P, X0, g2.g, .cons (r1.ext x2) r2, h, fun v H' d S' pd g' r' x' => ⟨d, S', pd, r', g2.to x' g', (x1.trans x2).trans x'⟩, .none⟩
theorem de_meth0 {CX : CXT} {pl : Sem Bool} (hF : FM X.prog X.w X.K X.mg X.base T CX k C m ps F) (hr : Room k X.A) (c : Cls X.K C) (hx : Passes CX X E0) (ho : DX X T B o ρ S d S1) (hv : Vw S1 d (.obj C gs)) (hn : gs.lookup m = none) (h : F [d] S1 P X0)
    (ht : eval (.Call (.Attribute o m apos) [] [] pos) X.env = (do
      let ov ← eval o X.env
      standAt apos.atName
      let (f, first) ← holding [ov] (getMethod ov m pl)
      callWith pos f first (backTo pos (starEach [] X.env)) (backToKw pos (keywordEach [] X.env))) := by rfl) : DE X T B (.Call (.Attribute o m apos) [] [] pos) ρ S P := fun σ H g s => by
  obtain ⟨f, fd, F, hm⟩ := hF.ex
  refine wE_of (pe_meth0 (pl := pl) (E := E0) pe_w c hm F.ok hr F.b .nil hx ht) (wE_mono (ho σ H g s) fun v H1 ⟨d1, T1, ⟨e1, e2⟩, r1, g1, x1⟩ => ?_)
  subst e1; subst e2
  obtain ⟨a, dx, fs, e3, h1, h2, h3⟩ := hv.obj g1.g r1
  subst e3
  refine ⟨a, dx, fs, rfl, h1, look_none h2 hn, ?_⟩
  exact ⟨[_], _, P, X0, g1.g, .cons r1 .nil, h, fun v H' d S' pd g' r' x' => ⟨d, S', pd, r', g1.to x' g', x1.trans x'⟩, .none⟩
/-- C(e, ..) -/
theorem de_make {CX : CXT} {x : Str} (hF : FI X.prog X.w X.K X.mg X.base T CX k C ps F) (hr : Room (k + 1) X.A) (hg : Gl X x) (hm : X.mg x = some (.ref C)) (hx : Passes CX X E0) (ha : DA X T B (e :: es) ρ S ds S1) (h : ∀ l, F (.ref l :: ds) (S1 ++ [(l, .obj C [])]) (fun d S' => d = .non ∧ P (.ref l) S') X0)
    (hdb : (x == ("__debug__" : Str)) = false := by decide) (he : starEach (e :: es) X.env = (false, eval e X.env) :: starEach es X.env := by rfl) (hpl : (backTo pos (starEach es X.env)).any (·.1) = false := by rfl) : DE X T B (.Call (.Name x p) (e :: es) [] pos) ρ S P := fun σ H g s => by
  obtain ⟨f, fd, F, M⟩ := hF.ex
  refine wE_of (pe_make (E := E0) M F.ok hr hg hm F.b .nil hx pa_w hdb he hpl) (wA_mono (ha σ H g s) fun vs H1 ⟨r1, g1, x1⟩ => fun l dx hl hdx hne => ?_)
  rw [List.append_nil]
  have nl : l ∉ mm S1 := fun z => by
    obtain ⟨o, h, _⟩ := g1.g.memM z
    rw [hl] at h; cases h
  have xa : Ext (mm S1) (mm S1) H1 (upd H1 dx (.own l)) := Ext.new1 hdx
  have hl' : upd H1 dx (.own l) l = none := by rw [upd_ne (fun z => hne z.symm)]; exact hl
  have xb : Ext (mm S1) (mm S1 ++ [l]) (upd H1 dx (.own l)) (upd (upd H1 dx (.own l)) l (.ins C dx [])) := Ext.newO hl'
  have ga : GoodS X.K T (upd H1 dx (.own l)) S1 := g1.g.new1 hdx
  have gb : GoodS X.K T (upd (upd H1 dx (.own l)) l (.ins C dx [])) (S1 ++ [(l, .obj C [])]) := ga.newO hl' ⟨dx, [], upd_same, rfl, .nil⟩
  have xb' : Ext (mm S1) (mm (S1 ++ [(l, .obj C [])])) (upd H1 dx (.own l)) (upd (upd H1 dx (.own l)) l (.ins C dx [])) := by rw [mm_append]; exact xb
  have xab := xa.trans xb'
  refine ⟨.ref l :: ds, S1 ++ [(l, .obj C [])], _, X0, gb, .cons (.ref l) (Reps.ext xab r1), h l, fun v H' d S' pd g' r' x' => ?_, .none⟩
  obtain ⟨e1, pd⟩ := pd
  subst e1
  cases r'
  exact ⟨rfl, .ref l, S', pd, .ref l, (g1.to xab gb).to x' g', (x1.trans xab).trans x'⟩
/-- all(xs), xs a list of bools -/
theorem dx_allL {bs : List Bool} (hc : X.calm = true) (hm : X.mg "all" = none) (hg : Gl X "all") (ha : DX X T B a ρ S d S1) (hs : Vw S1 d (.lst (bs.map D.bl))) (h1 : starEach (a :: []) X.env = (false, eval a X.env) :: starEach [] X.env := by rfl) : DX X T B (.Call (.Name "all" p) [a] [] pos) ρ S (.bl (bs.all id)) S1 :=
  de_callB (r := rAll X.K) (cr_all hc) (fun _ _ _ _ m ⟨p, ys, e, h, q⟩ => ⟨p, ys, e, h, m _ _ q⟩) hg hm boot_all' (da_cons ha da_nil h1) (fun H vs g r => by
    cases r with
    | cons r1 r2 =>
      cases r2
      obtain ⟨q, ws, e1, e2, e3⟩ := hs.lst g.g r1
      have e4 := e3.bls
      subst e4; subst e1
      exact ⟨q, bs, rfl, e2, Pt.here ⟨rfl, rfl⟩ g (.bl _)⟩) (he := h1)
end
theorem kit_same (K : PySem.W.Frag) (n : String) : PySem.W.kitOne K (.type n) (.type n) = some true := by
  unfold PySem.W.kitOne
  rw [if_pos (beq_self_eq_true _)]
theorem kit_int_bool (K : PySem.W.Frag) : PySem.W.kitOne K (.type "int") (.type "bool") = some false := by kernel_rfl
theorem kit_bool_int (K : PySem.W.Frag) : PySem.W.kitOne K (.type "bool") (.type "int") = some true := by kernel_rfl
theorem kit_tup_lst (K : PySem.W.Frag) : PySem.W.kitOne K (.type "tuple") (.type "list") = some false := by kernel_rfl
theorem kit_lst_tup (K : PySem.W.Frag) : PySem.W.kitOne K (.type "list") (.type "tuple") = some false := by kernel_rfl
theorem kit_non_tup (K : PySem.W.Frag) : PySem.W.kitOne K (.type "NoneType") (.type "tuple") = some false := by kernel_rfl
theorem kit_str_tup (K : PySem.W.Frag) : PySem.W.kitOne K (.type "str") (.type "tuple") = some false := by kernel_rfl
theorem kit_int_tup (K : PySem.W.Frag) : PySem.W.kitOne K (.type "int") (.type "tuple") = some false := by kernel_rfl
end DL
set_option Elab.async false
set_option linter.all false
set_option maxRecDepth 100000
set_option maxHeartbeats 1000000
namespace SB
open PySem PySem.Spec PyProof.Rows L2 DL
/-! ### the program: letters -/
def digitS : Str := "0123456789"
/-- the module's constants -/
structure Gs (K : PySem.W.Frag) (mg : Str → Option Value) : Prop where
  SMALL : ∃ t, mg "SMALL" = some (.str smallS t)
  GREAT : ∃ t, mg "GREAT" = some (.str tallS t)
  DIGITS : ∃ t, mg "DIGITS" = some (.str digitS t)
  WORDS : ∃ a, mg "WORDS" = some (.ref a) ∧ KTup K a (wordsL.map V.str)
  MOST_FIELDS : ∃ t, mg "MOST_FIELDS" = some (.int 6 t)
  FEWEST_NAMES : ∃ t, mg "FEWEST_NAMES" = some (.int 2 t)
  MOST_NAMES : ∃ t, mg "MOST_NAMES" = some (.int 6 t)
theorem sign_in {c : Nat} (h : isSign c = true) : (decide (c ∈ smallS.cps.toList) || (decide (c ∈ tallS.cps.toList) || (decide (c ∈ digitS.cps.toList) || decide ((⟨#[c]⟩ : Str) = ("_" : Str))))) = true := by
  have all : ∀ c < 123, isSign c = true → (decide (c ∈ smallS.cps.toList) || (decide (c ∈ tallS.cps.toList) || (decide (c ∈ digitS.cps.toList) || decide ((⟨#[c]⟩ : Str) = ("_" : Str))))) = true := by decide +kernel
  refine all c ?_ h
  unfold isSign at h
  simp at h
  omega
theorem Great.signs {w : Str} (g : Great w) : ∀ c ∈ w.cps.toList, isSign c = true := by
  obtain ⟨c, r, e, h1, h2, h3⟩ := g
  rw [e]
  intro x hx
  rcases List.mem_cons.mp hx with z | z
  · rw [z]; unfold isSign; simp; omega
  · exact h3 x z
theorem Great.ne {w : Str} (g : Great w) : w ≠ ("" : Str) := fun z => by
  obtain ⟨c, r, e, _⟩ := g
  rw [z] at e
  cases e
section
variable {P : Program} {w : World} {K : PySem.W.Frag} {mg : Str → Option Value} {base : Heap} {T : List Addr}
abbrev s_in_rows : Stmt := top 17
theorem sc_in_rows : FnScope ["sign"] ["sign"] (defScope s_in_rows) := ⟨rfl, rfl, rfl, by decide +kernel, rfl, by decide +kernel, by decide +kernel⟩
-- sign=0
def F_in_rows : FT := fun ds S P _ => ∃ c : Nat, ds = [.str ⟨#[c]⟩] ∧ isSign c = true ∧ P (.bl true) S
theorem fd_in_rows {f : Addr} {fd : FuncData} (F : Fun K "in_rows" "in_rows" s_in_rows f fd) (G : Gs K mg) (hb : Binds K fd ["sign"] []) : FD P w K mg base T CX0 1 f fd ["sign"] F_in_rows := by
  refine fd_d F sc_in_rows hb (fun ds S P PX h => by obtain ⟨_, rfl, _⟩ := h; rfl) (fun cdv A outer st H E B ds S Q PX hr hF => ?_)
  obtain ⟨c, rfl, hc, hQ⟩ := hF
  refine qs_ret (DX.cast (dx_or (dx_in1 (dx_var 0 rfl) (dx_gS rfl G.SMALL)) (fun _ => (dx_or (dx_in1 (dx_var 0 rfl) (dx_gS rfl G.GREAT)) (fun _ => (dx_or (dx_in1 (dx_var 0 rfl) (dx_gS rfl G.DIGITS)) (fun _ => (dx_one (dx_eqS (dx_var 0 rfl) dx_str))) (fun _ => rfl))) (fun _ => rfl))) (fun _ => rfl)) rfl rfl) ⟨_, _, Fz.refl, ?_⟩
  rw [sign_in hc]
  exact hQ
abbrev s_is_row_letters : Stmt := top 18
theorem sc_is_row_letters : FnScope ["text", "sign"] ["text"] (defScope s_is_row_letters) := ⟨rfl, rfl, rfl, by decide +kernel, rfl, by decide +kernel, by decide +kernel⟩
-- text=0 sign=1
def F_rowL : FT := fun ds S P _ => ∃ w : Str, ds = [.str w] ∧ Great w ∧ w.length ≤ 100000 ∧ P (.bl true) S
theorem fd_rowL {f : Addr} {fd : FuncData} (F : Fun K "is_row" "is_row" s_is_row_letters f fd) (b : BI mg) (hi : FN P w K mg base T CX0 1 "in_rows" ["sign"] F_in_rows) (hb : Binds K fd ["text"] []) : FD P w K mg base T CX0 2 f fd ["text"] F_rowL := by
  refine fd_d F sc_is_row_letters hb (fun ds S P PX h => by obtain ⟨_, rfl, _⟩ := h; rfl) (fun cdv A outer st H E B ds S Q PX hr hF => ?_)
  obtain ⟨u, rfl, gu, hl, hQ⟩ := hF
  refine qs_ret (dx_andT (S1 := S) ?_ (dx_one (dx_allL (bs := u.cps.toList.map fun _ => true) rfl b.all rfl (DN.dx (ds := (u.cps.toList.map fun _ => true).map D.bl) (S' := S) ?_) Vw.rfl'))) ⟨_, _, Fz.refl, ?_⟩
  · exact DX.cast (dx_neS (dx_var 0 rfl) dx_str) (by rw [decide_eq_false gu.ne]; rfl) rfl
  · refine (de_lc (xs := DL.signs u) (V := fun _ => True) (own := [("sign", 1)]) (I := fun j acc S2 => acc = (List.replicate j (D.bl true)) ∧ S2 = S) rfl sc_is_row_letters.nd (di_str (dx_var 0 rfl)) (blkOk_by (own := [("sign", 1)]) (N := ["text", "sign"]) (sc := defScope s_is_row_letters) (by decide +kernel)) ⟨⟨rfl, rfl⟩, ?_, fun _ _ _ _ _ => trivial⟩).imp ?_
    · rintro j x acc S2 hx ⟨rfl, rfl⟩
      unfold DL.signs at hx
      rw [List.getElem?_map] at hx
      obtain ⟨c, hc, rfl⟩ := Option.map_eq_some_iff.mp hx
      have hj := (List.getElem?_eq_some_iff.mp hc).1
      refine ⟨_, _, true, _, ?_, fun s H C cl fp => dg_name 1 sc_is_row_letters.nd, fun s H C cl fp B' L hB' => dts_nil, fun _ => ⟨.bl true, S2, fun s H C cl fp B' L hB' => de_call hi (hr.mono (by omega)) rfl pass0 (da_cons (dx_var 1 rfl) da_nil) ⟨c, rfl, gu.signs c (List.mem_of_getElem? hc), rfl, rfl⟩, ?_, List.replicate_succ'.symm, rfl⟩, fun z => nomatch z⟩
      · intro j hj; simpa using hj
      · rw [List.length_replicate]
        have : j < u.cps.size := by simpa using hj
        have : j < u.length := this
        omega
    · rintro d S' ⟨acc, S2, l, ⟨rfl, rfl⟩, rfl, rfl⟩
      refine ⟨l, rfl, ?_⟩
      rw [List.map_map, show ((D.bl ∘ fun _ : Nat => true) = fun _ => D.bl true) from rfl, List.map_const']
      unfold DL.signs
      rw [List.length_map]
  · rw [show (u.cps.toList.map fun _ => true).all id = true from by simp]
    exact hQ
abbrev s_kind_of_row : Stmt := top 21
theorem sc_kind_of_row : FnScope ["row"] ["row"] (defScope s_kind_of_row) := ⟨rfl, rfl, rfl, by decide +kernel, rfl, by decide +kernel, by decide +kernel⟩
-- row=0
def F_kind : FT := fun ds S P _ => ∃ w : Str, ds = [.str w] ∧ Great w ∧ w.length ≤ 100000 ∧ P (.str "great") S
theorem fd_kind {f : Addr} {fd : FuncData} (F : Fun K "kind_of_row" "kind_of_row" s_kind_of_row f fd) (G : Gs K mg) (hb : Binds K fd ["row"] []) : FD P w K mg base T CX0 1 f fd ["row"] F_kind := by
  refine fd_d F sc_kind_of_row hb (fun ds S P PX h => by obtain ⟨_, rfl, _⟩ := h; rfl) (fun cdv A outer st H E B ds S Q PX hr hF => ?_)
  obtain ⟨u, rfl, gu, hl, hQ⟩ := hF
  refine qs_if (DT.cast (k' := false) (dt_inTs (ts := wordsL) (dx_var 0 rfl) (dx_gTs rfl G.WORDS) (.inr rfl)) (decide_eq_false gu.word)) (fun e => nomatch e) (fun _ => qs_nil ?_)
  obtain ⟨c, r, e, h1, h2, h3⟩ := gu
  have hc : atI u.cps.toList 0 = some c := by rw [e]; unfold atI ixN; rw [if_pos (by decide), if_pos (by simp)]; rfl
  have small : ∀ c < 91, 65 ≤ c → decide (c ∈ smallS.cps.toList) = false := by decide +kernel
  have tall : ∀ c < 91, 65 ≤ c → decide (c ∈ tallS.cps.toList) = true := by decide +kernel
  refine qs_if (DT.cast (k' := false) (dt_in1 (dx_ixS (dx_var 0 rfl) dx_int hl hc) (dx_gS rfl G.SMALL)) (small c (by omega) h1)) (fun e => nomatch e) (fun _ => qs_nil ?_)
  refine qs_if (DT.cast (k' := true) (dt_in1 (dx_ixS (dx_var 0 rfl) dx_int hl hc) (dx_gS rfl G.GREAT)) (tall c (by omega) h1)) (fun _ => ?_) (fun e => nomatch e)
  exact qs_ret dx_str ⟨_, _, Fz.refl, hQ⟩
abbrev s_is_great : Stmt := top 23
theorem sc_is_great : FnScope ["value"] ["value"] (defScope s_is_great) := ⟨rfl, rfl, rfl, by decide +kernel, rfl, by decide +kernel, by decide +kernel⟩
-- value=0
def F_great : FT := fun ds S P _ => ∃ w : Str, ds = [.str w] ∧ Great w ∧ w.length ≤ 100000 ∧ P (.bl true) S
theorem fd_great {f : Addr} {fd : FuncData} (F : Fun K "is_great" "is_great" s_is_great f fd) (b : BI mg) (hl : FN P w K mg base T CX0 2 "is_row_letters" ["text"] F_rowL) (hk : FN P w K mg base T CX0 1 "kind_of_row" ["row"] F_kind) (hb : Binds K fd ["value"] []) : FD P w K mg base T CX0 3 f fd ["value"] F_great := by
  refine fd_d F sc_is_great hb (fun ds S P PX h => by obtain ⟨_, rfl, _⟩ := h; rfl) (fun cdv A outer st H E B ds S Q PX hr hF => ?_)
  obtain ⟨u, rfl, gu, h5, hQ⟩ := hF
  refine qs_ret (dx_andT (S1 := S) ?_ (dx_andT (S1 := S) (de_call hl (hr.mono (by omega)) rfl pass0 (da_cons (dx_var 0 rfl) da_nil) ⟨u, rfl, gu, h5, rfl, rfl⟩) (dx_one ?_))) ⟨_, _, Fz.refl, hQ⟩
  · exact (dx_isi (m := "str") b.isinstance rfl (dx_var 0 rfl) (dx_ty (n := "str") rfl b.str (by decide +kernel)) rfl (kit_same _ _))
  · exact DX.cast (dx_eqS (de_call hk (hr.mono (by omega)) rfl pass0 (da_cons (dx_var 0 rfl) da_nil) ⟨u, rfl, gu, h5, rfl, rfl⟩) dx_str) rfl rfl
/-! ### wholes, rows, pairs -/
abbrev s_is_whole : Stmt := top 25
theorem sc_is_whole : FnScope ["value"] ["value"] (defScope s_is_whole) := ⟨rfl, rfl, rfl, by decide +kernel, rfl, by decide +kernel, by decide +kernel⟩
-- value=0
def F_whole : FT := fun ds S P _ => ∃ i : Int, ds = [.int i] ∧ P (.bl true) S
theorem fd_whole {f : Addr} {fd : FuncData} (F : Fun K "is_whole" "is_whole" s_is_whole f fd) (b : BI mg) (hb : Binds K fd ["value"] []) : FD P w K mg base T CX0 1 f fd ["value"] F_whole := by
  refine fd_d F sc_is_whole hb (fun ds S P PX h => by obtain ⟨_, rfl, _⟩ := h; rfl) (fun cdv A outer st H E B ds S Q PX hr hF => ?_)
  obtain ⟨i, rfl, hQ⟩ := hF
  refine qs_if (k := false) (dt_of (dx_isi (m := "bool") b.isinstance rfl (dx_var 0 rfl) (dx_ty (n := "bool") rfl b.bool (by decide +kernel)) rfl (kit_int_bool _))) (fun e => nomatch e) (fun _ => qs_nil ?_)
  refine qs_ret (d := .bl true) ?_ ⟨_, _, Fz.refl, hQ⟩
  exact (dx_isi (m := "int") b.isinstance rfl (dx_var 0 rfl) (dx_ty (n := "int") rfl b.int (by decide +kernel)) rfl (kit_same _ _))
abbrev s_is_whole_between : Stmt := top 26
theorem sc_is_whole_between : FnScope ["value", "least", "greatest"] ["value", "least", "greatest"] (defScope s_is_whole_between) := ⟨rfl, rfl, rfl, by decide +kernel, rfl, by decide +kernel, by decide +kernel⟩
-- value=0 least=1 greatest=2
def F_between : FT := fun ds S P _ => ∃ i l g : Int, ds = [.int i, .int l, .int g] ∧ P (.bl (decide (l ≤ i) && decide (i ≤ g))) S
theorem fd_between {f : Addr} {fd : FuncData} (F : Fun K "is_whole_between" "is_whole_between" s_is_whole_between f fd) (hw : FN P w K mg base T CX0 1 "is_whole" ["value"] F_whole) (hb : Binds K fd ["value", "least", "greatest"] []) : FD P w K mg base T CX0 2 f fd ["value", "least", "greatest"] F_between := by
  refine fd_d F sc_is_whole_between hb (fun ds S P PX h => by obtain ⟨_, _, _, rfl, _⟩ := h; rfl) (fun cdv A outer st H E B ds S Q PX hr hF => ?_)
  obtain ⟨i, l, g, rfl, hQ⟩ := hF
  refine qs_ret (dx_andT (S1 := S) (de_call hw (hr.mono (by omega)) rfl pass0 (da_cons (dx_var 0 rfl) da_nil) ⟨i, rfl, rfl, rfl⟩) (dx_one (dx_leLe (dx_var 1 rfl) (dx_var 0 rfl) (fun _ => (dx_var 2 rfl))))) ⟨_, _, Fz.refl, hQ⟩
end
end SB
set_option Elab.async false
set_option linter.all false
set_option maxRecDepth 100000
set_option maxHeartbeats 4000000
namespace TX
open PySem PySem.Spec PyProof.Rows
section
variable {prog : Program} {w : World} {A : Around} {R : Result → Shared → Prop} {I : Addr} {fp wr : List Addr} {G : Array GenState → Array GenState → Prop} {n : Nat} {P : Nat → Value → Prop} {St : Nat → Shared → Prop}
/-- a set is filled with texts that differ -/
theorem loopTexts (W : WalksS prog w A.in1 I fp wr G n P St) (Z : Addr) (nz : Z ∉ fp) (xs : List Str) (ls : xs.length = n) (nd : xs.Nodup) (h64 : xs.length < 64) (vl : ∀ i v, P i v → ∃ t, v = .str (xs.getD i Str.empty) t) :
    ∀ (k i : Nat) (s : Shared), n - i = k → i ≤ n → St i s → s.heap.SetOf (strKind prog w) Z (fun y => (xs.take i).any (· == y)) i →
      (∀ s', Moved (Z :: wr) G s s' → s'.heap.SetOf (strKind prog w) Z (fun y => (xs.take n).any (· == y)) n → R (.ok (.ret .none)) s') → codeAny (model prog w) A (.builtin "set.update.loop" ⟨[.ref Z, .ref I], []⟩) R s := by
  have zw : Z ∉ wr := fun h => nz (W.sub _ h)
  have more : ∀ b ∈ wr, b ∈ Z :: wr := fun _ => List.mem_cons_of_mem _
  have stay : ∀ {h h' : Heap} {i : Nat}, (∀ o, h.get? Z = some o → h'.get? Z = some o) → h.SetOf (strKind prog w) Z (fun y => (xs.take i).any (· == y)) i → h'.SetOf (strKind prog w) Z (fun y => (xs.take i).any (· == y)) i := fun k ⟨o, es, ep, t, ho, q⟩ => ⟨o, es, ep, t, k o ho, q⟩
  intro k
  induction k with
  | zero =>
    intro i s hk hi q0 q1 q2
    have e : i = n := by omega
    subst e
    refine codeAny_builtin PyProof.Rows.F.entry_set_update_loop ?_
    rw [Around.under_plainId PyProof.Rows.F.plain_set_update_loop _]
    refine wpAny_bind (m := pyNext (.ref I)) (W.done s _ _ q0 fun s' mv => ?_)
    exact wpAny_pure (q2 s' (mv.mono more) (stay (fun o e => mv.heap Z o zw e) q1))
  | succ k ih =>
    intro i s hk hi q0 q1 q2
    have lt : i < n := by omega
    refine codeAny_builtin PyProof.Rows.F.entry_set_update_loop ?_
    rw [Around.under_plainId PyProof.Rows.F.plain_set_update_loop _]
    refine wpAny_bind (m := pyNext (.ref I)) (W.item i s _ _ lt q0 fun v s' pv q0' mv => ?_)
    obtain ⟨t, rfl⟩ := vl i v pv
    have q1' := stay (fun o e => mv.heap Z o zw e) q1
    refine wpAny_bind (m := holding [Value.str (xs.getD i Str.empty) t] (setAdd Z (.str (xs.getD i Str.empty) t))) (wpAny_holding ?_)
    unfold setAdd
    refine wpAny_holding (wpAny_bind ((strKind prog w).pyHash (k := xs.getD i Str.empty) (strKind_is _ _ _ _) ?_))
    refine wpAny_setAddHashed_of (knd := strKind prog w) (s := { s' with toks := s'.toks + 1 }) (strKind_is _ _ _ _) rfl q1' (by unfold scanBound; omega) fun h' hs hn => ?_
    have hx : xs[i]? = some (xs.getD i Str.empty) := by rw [List.getD_eq_getElem?_getD, List.getElem?_eq_getElem (by omega)]; rfl
    have tk : xs.take (i + 1) = xs.take i ++ [xs.getD i Str.empty] := by rw [List.take_add_one, hx]; rfl
    have out : (xs.take i).any (· == xs.getD i Str.empty) = false := by
      rw [List.any_eq_false]
      intro y hy e
      have e : y = xs.getD i Str.empty := by simpa using e
      obtain ⟨j, hj, e2⟩ := List.getElem_of_mem hy
      have hji : j < i := by rw [List.length_take] at hj; omega
      have e3 : xs[j]? = some (xs.getD i Str.empty) := by rw [List.getElem_take] at e2; rw [List.getElem?_eq_getElem (by omega), e2, e]
      have := (List.getElem?_inj (i := j) (by omega) nd).mp (e3.trans hx.symm)
      omega
    have q3 : h'.SetOf (strKind prog w) Z (fun y => (xs.take (i + 1)).any (· == y)) (i + 1) := by
      refine SetOf_congr hn (fun y => ?_) (by simp only [out]; rfl)
      rw [tk, List.any_append]
      congr 1
      by_cases e : y = xs.getD i Str.empty
      · subst e; simp
      · have hb : (xs.getD i Str.empty == y) = false := by simpa [beq_iff_eq] using (fun z : xs.getD i Str.empty = y => e z.symm)
        simp only [List.any_cons, List.any_nil, Bool.or_false, hb]
        exact decide_eq_false e
    refine wpAny_pure ⟨plainId_quiet PyProof.Rows.F.plain_set_update_loop _, ih (i + 1) _ (by omega) lt (W.frame _ s' _ _ q0' (Nat.le_succ _) fun b hb o e => ?_) q3 fun s2 mv2 q4 => q2 s2 (Moved.trans W.gtrans ((mv.mono more).then_heap (Nat.le_succ _) fun b o hb e => ?_) mv2) q4⟩
    · exact (hs.2 b fun z : b = Z => nz (z ▸ hb)).trans e
    · exact (hs.2 b fun z : b = Z => hb (z ▸ List.mem_cons_self)).trans e
end
section
variable {prog : Program} {w : World} {A : Around} {E : Value → Shared → Prop} {s : Shared}
theorem call_set_texts {l : Addr} {its : Array Value} {xs : List Str} {Q : Value → Shared → Prop}
    (hd0 : A.handled = none) (tu : s.heap.IsTuple l its) (sa : StrsAre its.toList xs) (hnd : xs.Nodup) (h64 : xs.length < 64)
    (h : ∀ (h' : Heap) (tk : Nat), h'.SetOf (PySem.strKind prog w) s.heap.objs.size (fun k' => (xs.take its.size).any (· == k')) its.size →
      (∀ b o, b < s.heap.objs.size → s.heap.get? b = some o → h'.get? b = some o) → Q (.ref s.heap.objs.size) { s with heap := h', toks := tk }) :
    wpAny (model prog w) A (call (.type "set") [.ref l]) Q E s := by
  obtain ⟨c, tl, mr⟩ := PySem.F.called_set.mro
  have md := PySem.F.called_set.made
  have sb0 := PySem.F.called_set.sub
  refine wpAny_call (codeAny_of_tree ?_)
  show wpAny _ _ (callAny (.type "set") _) _ _ _
  refine wpAny_pure ⟨Code.quiet_builtin _ (by decide +kernel), codeAny_builtin PySem.F.entry_type_call ?_⟩
  rw [Around.under_plain (weight_type_call_type "set" [.ref l] []) rfl]
  have nt := PySem.F.called_set.notType
  have cc := PySem.F.called_set.canCreate
  have tc := PySem.F.typeCall_set_1 (.ref l)
  repeat (any_goals (first | assumption | wp_step))
  refine codeAny_mono (code_set_new_1 (.ref l) (E := E) (Q₁ := fun obj s₁ => ∃ lk : Bool, obj = .ref s.heap.objs.size ∧ s₁ = { s with heap := s.heap.push { cls := .type "set", dict := none, data := .set #[] 0 (.fresh 0 0 lk) } }) fun lk => ⟨lk, rfl, rfl⟩) fun r s₁ hr => ?_
  cases r with
  | error e => exact hr
  | ok fl =>
    cases fl with
    | ret obj =>
      obtain ⟨lk, rfl, rfl⟩ := hr
      have sz : (s.heap.push { cls := .type "set", dict := none, data := .set #[] 0 (.fresh 0 0 lk) }).get? s.heap.objs.size = some { cls := .type "set", dict := none, data := .set #[] 0 (.fresh 0 0 lk) } := Heap.get?_push_size _ rfl
      have st0 : Shared.TypeIs { s with heap := s.heap.push { cls := .type "set", dict := none, data := .set #[] 0 (.fresh 0 0 lk) } } (.ref s.heap.objs.size) "set" := ⟨_, sz, rfl⟩
      have il := PySem.F.called_set.init.lookup
      have ib := PySem.F.called_set.init.bind (.ref s.heap.objs.size)
      repeat (any_goals (first | assumption | wp_step))
      refine codeAny_mono (codeAny_call_builtin (R := wants (fun r s₂ => r = .none ∧ ∃ h' tk, s₂ = { s with heap := h', toks := tk } ∧
          h'.SetOf (PySem.strKind prog w) s.heap.objs.size (fun k' => (xs.take its.size).any (· == k')) its.size ∧
          (∀ b o, b < s.heap.objs.size → s.heap.get? b = some o → h'.get? b = some o)) E) PySem.F.called_set.init.plain PySem.F.entry_set_init (check_set_init_1 st0 ?_)) fun r₂ s₂ hr₂ => ?_
      · obtain ⟨ol, ol1, oc1, nl, od1⟩ := tu
        obtain ⟨ocls, odict, odata, oslots⟩ := ol
        simp only at oc1 od1
        subst oc1; subst od1
        have ol1' : (s.heap.push { cls := .type "set", dict := none, data := .set #[] 0 (.fresh 0 0 lk) }).get? l = some { cls := .type "tuple", dict := odict, data := .seq its nl, slots := oslots } := Heap.get?_push_of_some _ ol1
        have q1 := PySem.F.sub_tuple_set
        have q2 := PySem.F.sub_tuple_frozenset
        have q3 : (Value.type "tuple" == Value.type "dict") = false := by decide
        have tu1 : (s.heap.push { cls := .type "set", dict := none, data := .set #[] 0 (.fresh 0 0 lk) }).IsTuple l its := ⟨_, ol1', rfl, nl, rfl⟩
        unfold Builtin.«set.__init__» noKeywords Builtin.Frozenset.updateFrom
        generalize hPI : pyIter = PI
        wp_walk
        subst hPI
        refine wpAny_pyIter_tuple tu1 ?_
        refine wpAny_bind (wpAny_runValue ?_)
        have lt0 : l < s.heap.objs.size := Heap.lt_size ol1
        have hd3 : A.in1.in1.in1.handled = none := by simp [hd0]
        have ne0 : l ≠ (s.heap.push { cls := .type "set", dict := none, data := .set #[] 0 (.fresh 0 0 lk) }).objs.size := by
          rw [Heap.size_push]; exact Nat.ne_of_lt (Nat.lt_succ_of_lt lt0)
        have nf0 : s.heap.objs.size ∉ [(s.heap.push { cls := .type "set", dict := none, data := .set #[] 0 (.fresh 0 0 lk) }).objs.size, l] := by
          rw [Heap.size_push]; simp only [List.mem_cons, List.mem_singleton, List.not_mem_nil, or_false, not_or]
          exact ⟨Nat.ne_of_lt (Nat.lt_succ_self _), Nat.ne_of_gt lt0⟩
        have ls0 : xs.length = its.size := by rw [← StrsAre.len_eq sa, Array.length_toList]
        have vl0 : ∀ (i : Nat) (v : Value), its[i]? = some v → ∃ t, v = .str (xs.getD i Str.empty) t := fun i v hv => SS.strs_at sa i v (by rw [Array.getElem?_toList]; exact hv)
        refine loopTexts ((Walks.tuple hd3 _ l ne0 its).toS) s.heap.objs.size
          nf0 xs ls0 hnd h64 vl0 (its.size - 0) 0 _ (by omega) (Nat.zero_le _)
          ⟨⟨_, Heap.get?_push_size _ rfl, rfl, rfl⟩, (tu1.push _)⟩ ?hS0 ?hR
        case hS0 =>
          have hget : ((s.heap.push { cls := .type "set", dict := none, data := .set #[] 0 (.fresh 0 0 lk) }).push { cls := .type "tuple_iterator", data := .fields #[.ref l, .int 0 0] }).get? s.heap.objs.size
              = some { cls := .type "set", dict := none, data := .set #[] 0 (.fresh 0 0 lk) } := Heap.get?_push_of_some _ sz
          exact PyProof.Rows.SetOf_congr ((PyProof.Rows.setObjOf_fresh (knd := PySem.strKind prog w) lk).setOf hget (by unfold scanBound; omega)) (fun _ => rfl) rfl
        case hR =>
          intro s' hm sz'
          obtain ⟨h', g', d', tk', os'⟩ := s'
          have eg : g' = s.gens := hm.gens
          have ed : d' = s.drawn := hm.drawn
          have eo : os' = s.os := hm.os
          subst eg; subst ed; subst eo
          show wpAny _ _ _ _ _ _
          refine wpAny_pure ?_
          show wpAny _ _ (ret Value.none) _ _ _
          refine wpAny_pure ⟨rfl, h', tk', rfl, sz', fun b o hb e => ?_⟩
          have hb1 : b ≠ s.heap.objs.size := Nat.ne_of_lt hb
          have hb2 : b ≠ (s.heap.push { cls := .type "set", dict := none, data := .set #[] 0 (.fresh 0 0 lk) }).objs.size := by
            rw [Heap.size_push]; exact Nat.ne_of_lt (Nat.lt_succ_of_lt hb)
          exact hm.heap b o (by simp only [List.mem_cons, List.mem_singleton, List.not_mem_nil, or_false, not_or]; exact ⟨hb1, hb2⟩) (Heap.get?_push_of_some _ (Heap.get?_push_of_some _ e))
      · cases r₂ with
        | error e => exact hr₂
        | ok fl₂ =>
          cases fl₂ with
          | ret r =>
            obtain ⟨rfl, h', tk, rfl, sz', hk'⟩ := hr₂
            repeat (any_goals (first | assumption | wp_step))
            exact h _ _ sz' hk'
          | _ => exact hr₂.elim
    | _ => exact hr.elim
end
end TX
set_option Elab.async false
set_option linter.all false
set_option maxRecDepth 100000
set_option maxHeartbeats 4000000
namespace DL
open PySem PySem.Spec PyProof.Rows L2
section
variable {X : Cx} {T : List Addr} {B : Bk} {e a : Expr} {ρ : Rho} {S S1 : Sto} {p p2 q pos : Pos}
/-- len(set(xs)), xs a tuple of texts that differ -/
theorem dx_lenSet {ts : List Str} (hc : X.calm = true) (hg : Gl X "len") (hm : X.mg "len" = none) (hg2 : Gl X "set") (hm2 : X.mg "set" = none) (ha : DX X T B a ρ S (.tup (ts.map D.str)) S1) (nd : ts.Nodup) (h64 : ts.length < 64)
    (na : starEach [a] X.env = (false, eval a X.env) :: starEach [] X.env := by rfl) : DX X T B (.Call (.Name "len" p) [.Call (.Name "set" p2) [a] [] q] [] pos) ρ S (.int (ts.length : Nat)) S1 := fun σ H g sl => wE.mk fun pins s I => by
  refine Call_ (ld_blt I hg hm PySem.boot_len (PyProof.Rows.callWith_builtin1 (PyProof.Rows.args_cons ?_ rfl) rfl rfl))
  refine Call_ (ld_blt I hg2 hm2 PyProof.Rows.boot_set (PyProof.Rows.callWith_type1 (PyProof.Rows.args_cons (thn ((ha σ H g sl).run pins s I) fun v s1 ⟨x, H1, I1, r1, d1, T1, ⟨e1, e2⟩, rd, g1, x1⟩ => PyProof.Rows.args_nil ?_) na) na rfl))
  subst e1; subst e2
  obtain ⟨l, vs, e3, e4, e5⟩ := rd.tupT
  have e6 := e5.strs
  subst e6; subst e3; cases r1
  obtain ⟨its, r, pl, _⟩ := I1.tuple e4
  refine TX.call_set_texts (I1.ok.hd hc) pl (by simpa using strsAre_of r) nd h64 fun h' tk hS hk => PyProof.Rows.args_nil ?_
  have hl : its.toArray.size = ts.length := by rw [List.size_toArray, ← r.length, List.length_map]
  rw [hl] at hS
  obtain ⟨o, es, ep, t, ho, hex, hd, _, _, _, hf, hn⟩ := hS
  have I2 : Inv X pins σ H1 { s1 with heap := h', toks := tk } := I1.kept fun b o e => hk b o (Heap.lt_size e) e
  exact call_len_set ho hex hd hf (by rw [hn]; omega) ⟨.int ts.length, H1, I2.tok _, ⟨_, by rw [hn]⟩, _, _, ⟨rfl, rfl⟩, .int _, g1, x1⟩
end
end DL
set_option Elab.async false
set_option linter.all false
set_option maxRecDepth 100000
set_option maxHeartbeats 4000000
namespace DL
open PySem PySem.Spec PyProof.Rows L2
section
variable {X : Cx} {T : List Addr} {B : Bk} {e a b c o tg : Expr} {es : List Expr} {st : Stmt} {sts sts' rest : List Stmt} {ρ ρ' : Rho} {S S1 S2 S3 S' : Sto} {d y z : D} {Q P : D → Sto → Prop} {pos p2 p pos' apos cpos : Pos} {ds xs ys : List D}
/-! ### tuples that are made of lists: their methods are known -/
theorem DX.unF (h : DX X T B e ρ S (.tupF xs) S') : DX X T B e ρ S (.tup xs) S' := fun σ H g s => wE_mono (h σ H g s) fun v H1 ⟨d1, T1, ⟨e1, e2⟩, r1, g1, x1⟩ => by
  subst e1; subst e2
  exact ⟨_, _, ⟨rfl, rfl⟩, r1.unF, g1, x1⟩
theorem DX.unP (h : DX X T B e ρ S (.tupP xs) S') : DX X T B e ρ S (.tup xs) S' := fun σ H g s => wE_mono (h σ H g s) fun v H1 ⟨d1, T1, ⟨e1, e2⟩, r1, g1, x1⟩ => by
  subst e1; subst e2
  exact ⟨_, _, ⟨rfl, rfl⟩, r1.unP, g1, x1⟩
/-- tuple(xs), xs a list: told as it is laid -/
theorem dx_tupleP (hm : X.mg "tuple" = none) (hg : Gl X "tuple") (ha : DX X T B a ρ S d S1) (hs : Vw S1 d (.lst xs)) (h1 : starEach (a :: []) X.env = (false, eval a X.env) :: starEach [] X.env := by rfl) : DX X T B (.Call (.Name "tuple" p) [a] [] pos) ρ S (.tupP xs) S1 :=
  de_callTy (r := rTupOf X.K) call_tuple_of (fun _ _ _ _ m ⟨p, ys, e, h⟩ => ⟨p, ys, e, h.elim (fun ⟨h, q⟩ => .inl ⟨h, fun l hl => m _ _ (q l hl)⟩) fun ⟨h, q⟩ => .inr ⟨h, m _ _ q⟩⟩) hg hm (by decide +kernel) (da_cons ha da_nil h1) (fun H vs g r => by
    cases r with
    | cons r1 r2 =>
      cases r2
      obtain ⟨q, ws, e1, e2, e3⟩ := hs.lst g.g r1
      subst e1
      refine ⟨q, ws, rfl, .inl ⟨e2, fun l hl => ?_⟩⟩
      have x2 : Ext (mm S1) (mm S1) H (upd H l (.tup ws)) := Ext.new1 hl
      have np : l ∉ mm S1 := fun z => by
        obtain ⟨o, h, _⟩ := g.g.memM z
        rw [hl] at h; cases h
      exact ⟨_, _, ⟨rfl, rfl⟩, .tupP np upd_same (e3.ext x2), g.to x2 (g.g.new1 hl), x2⟩) (he := h1)
/-- tuple(xs), xs a list: laid with its object -/
abbrev rTupF (K : PySem.W.Frag) : List V → Hp → VK → Prop := fun xs H Q => ∃ p ys, xs = [.ref p] ∧ SqL K H p ys ∧ ∀ l (ob : Obj), H l = none → ob.dict = none → Q (.ref l) (upd H l (.frz ob (.tup ys)))
theorem call_tupleF : CallR X (.type "tuple") (rTupF X.K) := by
  intro pins s σ H xs us Q I r h
  obtain ⟨p, ys, rfl, hq, q⟩ := h
  obtain ⟨u, rfl, rx⟩ := vals1 r
  cases rx
  obtain ⟨its, r', pl, hz⟩ := I.list hq
  have hlen := r'.length
  refine call_tuple_list pl.isList (fun h' kp => ?_) (by simp only [List.size_toArray]; omega)
  have I1 : Inv X pins σ H { s with heap := h' } := I.kept (t' := s.toks) kp
  have hg : (h'.push { cls := .type "tuple", data := .seq its.toArray }).get? h'.objs.size = some { cls := .type "tuple", data := .seq its.toArray } := Heap.get?_push_size _ rfl
  have I2 : Inv X pins σ (upd H h'.objs.size (.frz { cls := .type "tuple", data := .seq its.toArray } (.tup ys))) { s with heap := h'.push { cls := .type "tuple", data := .seq its.toArray } } :=
    I1.laid (t' := s.toks) (fun b o e => Heap.get?_push_of_some _ e) (Nat.le_refl _) (show ObjOk X.prog X.w _ _ _ (.frz _ (.tup ys)) from ⟨hg, hz, its, r', IsTup.new _ _⟩)
  exact ⟨.ref h'.objs.size, _, I2, rfl, q _ _ (I1.hok.fresh (Nat.le_refl _)) rfl⟩
theorem dx_tupleF (hm : X.mg "tuple" = none) (hg : Gl X "tuple") (ha : DX X T B a ρ S d S1) (hs : Vw S1 d (.lst xs)) (h1 : starEach (a :: []) X.env = (false, eval a X.env) :: starEach [] X.env := by rfl) : DX X T B (.Call (.Name "tuple" p) [a] [] pos) ρ S (.tupF xs) S1 :=
  de_callTy (r := rTupF X.K) call_tupleF (fun _ _ _ _ m ⟨p, ys, e, h, q⟩ => ⟨p, ys, e, h, fun l ob hl hd => m _ _ (q l ob hl hd)⟩) hg hm (by decide +kernel) (da_cons ha da_nil h1) (fun H vs g r => by
    cases r with
    | cons r1 r2 =>
      cases r2
      obtain ⟨q, ws, e1, e2, e3⟩ := hs.lst g.g r1
      subst e1
      refine ⟨q, ws, rfl, e2, fun l ob hl hd => ?_⟩
      have x2 : Ext (mm S1) (mm S1) H (upd H l (.frz ob (.tup ws))) := Ext.new1 hl
      have np : l ∉ mm S1 := fun z => by
        obtain ⟨o, h, _⟩ := g.g.memM z
        rw [hl] at h; cases h
      exact ⟨_, _, ⟨rfl, rfl⟩, .tupF np upd_same hd (e3.ext x2), g.to x2 (g.g.new1 hl), x2⟩) (he := h1)
/-- row.index(x), the first place told -/
theorem dx_tindex {ts : List Str} {u : Str} {j : Nat} (ho : DX X T B o ρ S (.tupF (ts.map D.str)) S1) (ha : DX X T B e ρ S1 (.str u) S2) (hj : ts[j]? = some u) (hno : ∀ m, m < j → ts[m]? ≠ some u)
    (hbase : attributeBase o "index" X.env (eval o X.env) = eval o X.env := by rfl)
    (hfew : ((backTo cpos (starEach (e :: []) X.env)).all (fun x => !x.1) && (backToKw cpos (keywordEach [] X.env)).all (fun x => x.1.isSome)
      && decide ((e :: []).length + ([] : List Keyword).length + (if ([] : List Keyword).isEmpty then 0 else 1) < 30)) = true := by rfl)
    (hline : (apos.endLine == cpos.line) = true := by rfl) (hs : starEach (e :: []) X.env = (false, eval e X.env) :: starEach [] X.env := by rfl) (hplain : (backTo cpos (starEach [] X.env)).any (·.1) = false := by rfl) :
    DX X T B (.Call (.Attribute o "index" apos) [e] [] cpos) ρ S (.int (j : Nat)) S2 := fun σ H g sl => wE.mk fun pins s I => by
  refine wpAny_Call_method_late hbase hfew hline rfl (thn ((ho σ H g sl).run pins s I) fun v s1 ⟨x, H1, I1, r1, d1, T1, ⟨e1, e2⟩, rd, g1, x1⟩ => ?_)
  subst e1; subst e2
  cases rd with
  | tupF nm hh hd rs =>
    cases r1
    have ob := I1.hok _ _ hh
    obtain ⟨hg, _, its, rv, oo, h1, h2, h3⟩ := ob
    rw [hg] at h1
    cases h1
    refine ⟨"tuple", "tuple.index", PySem.F.plainAttrs_tuple, PySem.F.slot_tuple_index, PySem.F.type_tuple_index, ⟨_, hg, h2⟩, fun a e => by cases e; exact ⟨_, hg, hd⟩, ?_⟩
    have hA := ((da_cons ha da_nil hs) σ H1 g1 (sl.ext x1)).run cpos pins s1 I1
    rw [hs] at hA ⊢
    refine Calls.callWith_builtin (by show (false || (backTo cpos (starEach [] X.env)).any (·.1)) = false; rw [hplain]; rfl) (Calls.evalArgs_plain ?_)
    refine thn hA fun us s2 ⟨vs2, H2, I2, r2, rd2, g2, x2⟩ => ?_
    cases rd2 with
    | cons rd2 rd3 =>
    cases rd3; cases rd2
    have es := rs.strs
    subst es
    have k2 : H2 _ = some _ := x2.kp nm hh fun _ z => by cases z
    exact mt_tup_index pins s2 σ H2 (.ref _) _ _ _ _ I2 rfl r2 ⟨_, ts, u, j, rfl, rfl, .inl (.inr ⟨_, k2⟩), hj, hno, _, _, ⟨rfl, rfl⟩, .int _, g2, x1.trans x2⟩
end
end DL
set_option Elab.async false
set_option linter.all false
set_option maxRecDepth 100000
set_option maxHeartbeats 4000000
namespace DL
open PySem PySem.Spec PyProof.Rows L2
/-! ### texts in ascending order -/
def leS (a b : Str) : Prop := a.cps.toList ≤ b.cps.toList
instance (a b : Str) : Decidable (leS a b) := by unfold leS; infer_instance
/-- the texts in ascending order -/
def srt (ss : List Str) : List Str := ss.mergeSort fun a b => decide (leS a b)
theorem leS_trans {a b c : Str} (h : leS a b) (k : leS b c) : leS a c := List.le_trans h k
theorem leS_total (a b : Str) : leS a b ∨ leS b a := List.le_total _ _
theorem leS_anti {a b : Str} (h : leS a b) (k : leS b a) : a = b := by
  have e : a.cps.toList = b.cps.toList := List.le_antisymm h k
  cases a; cases b
  simp at e
  rw [e]
theorem srt_perm (ss : List Str) : (srt ss).Perm ss := List.mergeSort_perm _ _
theorem srt_pair (ss : List Str) : (srt ss).Pairwise leS := by
  have := List.pairwise_mergeSort (le := fun a b : Str => decide (leS a b)) (fun a b c h k => decide_eq_true (leS_trans (of_decide_eq_true h) (of_decide_eq_true k))) (fun a b => by
    rcases leS_total a b with h | h
    · simp [h]
    · simp [h]) ss
  exact this.imp fun h => of_decide_eq_true h
theorem rising_pair : ∀ (l : List Str) (p : Str), risingS p l = true → (p :: l).Pairwise leS
  | [], p, _ => List.pairwise_singleton _ _
  | x :: l, p, h => by
    have h2 : (!ltCps x.cps.toList p.cps.toList && risingS x l) = true := h
    rw [Bool.and_eq_true] at h2
    have r := rising_pair l x h2.2
    have px : leS p x := by
      have e := h2.1
      rw [ltCps_eq] at e
      simpa [leS] using e
    refine List.pairwise_cons.mpr ⟨fun y hy => ?_, r⟩
    rcases List.mem_cons.mp hy with z | z
    · rw [z]; exact px
    · exact leS_trans px ((List.pairwise_cons.mp r).1 y z)
theorem srt_uniq {ys ss : List Str} (hp : ys.Perm ss) (hs : sortedS ys = true) : ys = srt ss := by
  have p : ys.Pairwise leS := by
    cases ys with
    | nil => exact List.Pairwise.nil
    | cons x r => exact rising_pair r x hs
  exact List.Perm.eq_of_pairwise (le := leS) (fun a b _ _ => leS_anti) p (srt_pair ss) (hp.trans (srt_perm ss).symm)
theorem srt_mem {x : Str} {ss : List Str} : x ∈ srt ss ↔ x ∈ ss := (srt_perm ss).mem_iff
theorem srt_length (ss : List Str) : (srt ss).length = ss.length := (srt_perm ss).length_eq
theorem srt_nodup {ss : List Str} (h : ss.Nodup) : (srt ss).Nodup := (srt_perm ss).nodup_iff.mpr h
section
variable {X : Cx} {T : List Addr} {B : Bk} {e a : Expr} {ρ : Rho} {S S1 : Sto} {d : D} {p pos : Pos}
theorem dn_srt {ss : List Str} (hm : X.mg "sorted" = none) (hg : Gl X "sorted") (ha : DX X T B a ρ S d S1) (hs : SeqD S1 d (ss.map D.str)) (h64 : ss.length < 64) (h1 : starEach (a :: []) X.env = (false, eval a X.env) :: starEach [] X.env := by rfl) :
    DN X T B (.Call (.Name "sorted" p) [a] [] pos) ρ S ((srt ss).map D.str) S1 := (dn_sorted hm hg ha hs h64 h1).imp fun d S' ⟨l, ys, hp, hso, e1, e2⟩ => ⟨l, e1, by rw [e2, srt_uniq hp hso]⟩
end
/-! ### comprehensions that keep the store -/
section
variable {X : Cx} {T : List Addr} {B : Bk} {elt tg iter : Expr} {scope : Scope} {own : List (Str × Nat)} {ρ : Rho} {S S1 : Sto} {xs ys : List D} {V : Sto → Prop} {pos : Pos}
/-- [elt for tg in iter] -/
theorem dn_lcmap (hc : X.calm = true) (hN : X.N.Nodup) (hi : DI X T B tg iter ρ S xs V S1) (ok : BlkOk X.N X.env.scope scope own) (hl : ys.length = xs.length) (h5 : xs.length ≤ 100000) (hV : ∀ L acc, V (S1 ++ [(L, .lst acc)]))
    (h : ∀ (i : Nat) x y, xs[i]? = some x → ys[i]? = some y → ∃ ρ1 ix, (∀ j ∈ ix, j ∈ own.map (·.2)) ∧ (∀ s H C cl fp, DG (Cx.lc X scope s H C cl fp) tg x (wipeR ρ (own.map (·.2))) ρ1 ix) ∧
      ∀ s H C cl fp B' L acc, B.Le B' → DX (Cx.lc X scope s H C cl fp) T B' elt ρ1 (S1 ++ [(L, .lst acc)]) y (S1 ++ [(L, .lst acc)])) (hs : ∀ x, foldedSetIterable iter X.env x = pure x := by intro _; rfl) :
    DN X T B (.ListComp elt [⟨tg, iter, [], 0⟩] scope pos) ρ S ys S1 := by
  refine (de_lc (I := fun j acc S2 => acc = ys.take j ∧ S2 = S1) hc hN hi ok ⟨⟨rfl, rfl⟩, ?_, fun i acc S2 L e => by rw [e.2]; exact hV L acc⟩ hs).imp ?_
  · rintro i x acc S2 hx ⟨rfl, rfl⟩
    have hlt := (List.getElem?_eq_some_iff.mp hx).1
    obtain ⟨y, hy⟩ : ∃ y, ys[i]? = some y := ⟨_, List.getElem?_eq_getElem (by omega)⟩
    obtain ⟨ρ1, ix, q1, q2, q3⟩ := h i x y hx hy
    refine ⟨ρ1, ix, true, S2, q1, q2, fun s H C cl fp B' L _ => dts_nil, fun _ => ⟨y, S2, fun s H C cl fp B' L hB => q3 s H C cl fp B' L _ hB, by rw [List.length_take]; omega, by rw [List.take_succ, hy]; rfl, rfl⟩, fun z => nomatch z⟩
  · rintro d S' ⟨acc, S2, l, ⟨rfl, rfl⟩, rfl, rfl⟩
    exact ⟨l, rfl, by rw [List.take_of_length_le (by omega)]⟩
end
/-! ### rows of data -/
/-- d is a list or a tuple of these -/
def SqD (d : D) (xs : List D) : Prop := d = .lst xs ∨ d = .tup xs
section
variable {X : Cx} {T : List Addr} {B : Bk} {e a tg : Expr} {ρ : Rho} {S S1 : Sto} {d : D} {xs : List D} {p pos : Pos}
theorem SqD.seq (h : SqD d xs) : SeqD S d xs := h.elim (fun h => .inl (.inl h)) .inr
theorem di_sq (h : DX X T B e ρ S d S1) (hs : SqD d xs) : DI X T B tg e ρ S xs (fun _ => True) S1 := by
  rcases hs with hs | hs
  · subst hs; exact di_lst h
  · subst hs; exact di_tup h
theorem dx_lenQ (hm : X.mg "len" = none) (hg : Gl X "len") (ha : DX X T B a ρ S d S1) (hs : SqD d xs) (h1 : starEach (a :: []) X.env = (false, eval a X.env) :: starEach [] X.env := by rfl) : DX X T B (.Call (.Name "len" p) [a] [] pos) ρ S (.int (xs.length : Nat)) S1 := by
  rcases hs with hs | hs
  · subst hs; exact dx_lenL hm hg ha Vw.rfl' h1
  · subst hs; exact dx_lenT hm hg ha h1
theorem SqD.ty (h : SqD d xs) : ∃ n, tyD d = some n ∧ (n = "list" ∨ n = "tuple") := by
  rcases h with h | h
  · subst h; exact ⟨_, rfl, .inl rfl⟩
  · subst h; exact ⟨_, rfl, .inr rfl⟩
end
end DL
set_option Elab.async false
set_option linter.all false
set_option maxRecDepth 100000
set_option maxHeartbeats 1000000
namespace SB
open PySem PySem.Spec PyProof.Rows L2 DL
/-! ### the space of the fields -/
def rowF (us : List Str) : D := .tupF ((srt us).map D.str)
def wholeI (us : List Str) : Int := 1 * 2 ^ (us.length : Int).toNat - 1
def spaceL (fs : List (List Str)) : List (Str × D) := [("names", .tup (fs.map rowF)), ("whole", .tup (fs.map fun us => .int (wholeI us)))]
abbrev spaceD (C : Addr) (fs : List (List Str)) : D := .obj C (spaceL fs)
/-- what is known of the class -/
structure SpC (K : PySem.W.Frag) (C : Addr) : Prop where
  cl : Cls K C
  names : NoAttr K C "names"
  whole : NoAttr K C "whole"
section
variable {P : Program} {w : World} {K : PySem.W.Frag} {mg : Str → Option Value} {base : Heap} {T : List Addr}
abbrev s_init : Stmt := inClass (top 2) 0
theorem sc_init : FnScope ["self", "fields", "field", "row"] ["self", "fields"] (defScope s_init) := ⟨rfl, rfl, rfl, by decide +kernel, rfl, by decide +kernel, by decide +kernel⟩
-- self=0 fields=1 field=2 row=3
def F_init (C : Addr) : FT := fun ds S P _ => ∃ (l : Addr) (k : Nat) (x : D) (fs : List (List Str)), ds = [.ref l, x] ∧ S[k]? = some (l, .obj C []) ∧ SqD x (fs.map fieldD) ∧ fs.length ≤ 6 ∧ (∀ us ∈ fs, us.length ≤ 6) ∧ P .non (S.set k (l, spaceD C fs))
theorem fd_init {f C : Addr} {fd : FuncData} (F : Fun K "__init__" "Space.__init__" s_init f fd) (b : BI mg) (c : SpC K C) (hb : Binds K fd ["self", "fields"] []) : FD P w K mg base T CX0 1 f fd ["self", "fields"] (F_init C) := by
  refine fd_d F sc_init hb (fun ds S P PX h => by obtain ⟨_, _, _, _, rfl, _⟩ := h; rfl) (fun cdv A outer st H E B ds S Q PX hr hF => ?_)
  obtain ⟨l, k, x, fs, rfl, hk, hx, h6, hf6, hQ⟩ := hF
  have lenF : (fs.map fieldD).length = fs.length := List.length_map _
  refine qs_fld (n := k) (d := .tup (fs.map rowF)) (dx_tuple b.tuple rfl (DN.dx (dn_lcmap (xs := fs.map fieldD) (ys := fs.map rowF) (V := fun _ => True) (own := [("field", 2)]) rfl sc_init.nd (di_sq (dx_var 1 rfl) hx) (blkOk_by (own := [("field", 2)]) (N := ["self", "fields", "field", "row"]) (sc := defScope s_init) (by decide +kernel)) (by rw [List.length_map, List.length_map]) (by rw [List.length_map]; omega) (fun _ _ => trivial) ?_)) (.inl Vw.rfl')) (dx_var 0 rfl) hk c.cl c.names (by decide) ?_
  · intro i x y hx hy
    rw [List.getElem?_map] at hx hy
    obtain ⟨us, hus, rfl⟩ := Option.map_eq_some_iff.mp hx
    rw [hus] at hy
    cases hy
    have u6 := hf6 us (List.mem_of_getElem? hus)
    refine ⟨_, _, ?_, fun s H C cl fp => dg_name 2 sc_init.nd, fun s H C cl fp B' L acc hB' => dx_tupleF b.tuple rfl (DN.dx (dn_srt b.sorted rfl (dx_var 2 rfl) (.inr rfl) (by omega))) Vw.rfl'⟩
    intro j hj; simpa using hj
  have hk2 := at_set (z := (l, D.obj C (putD "names" (.tup (fs.map rowF)) []))) hk
  refine qs_fld (n := k) (d := .tup (fs.map fun us => .int (wholeI us))) (dx_tuple b.tuple rfl (DN.dx (dn_lcmap (xs := fs.map rowF) (ys := fs.map fun us => .int (wholeI us)) (V := fun _ => True) (own := [("row", 3)]) rfl sc_init.nd (di_tup (dx_fld (C := C) (gs := [("names", .tup (fs.map rowF))]) (dx_var 0 rfl) (Vw.own (memOf hk2)) c.cl c.names rfl)) (blkOk_by (own := [("row", 3)]) (N := ["self", "fields", "field", "row"]) (sc := defScope s_init) (by decide +kernel)) (by rw [List.length_map, List.length_map]) (by rw [List.length_map]; omega) (fun _ _ => trivial) ?_)) (.inl Vw.rfl')) (dx_var 0 rfl) hk2 c.cl c.whole (by show 1 < 1000; decide) ?_
  · intro i x y hx hy
    rw [List.getElem?_map] at hx hy
    obtain ⟨us, hus, rfl⟩ := Option.map_eq_some_iff.mp hx
    rw [hus] at hy
    cases hy
    have u6 := hf6 us (List.mem_of_getElem? hus)
    have lenU : ((srt us).map D.str).length = us.length := by rw [List.length_map, srt_length]
    refine ⟨_, _, ?_, fun s H C cl fp => dg_name 3 sc_init.nd, fun s H C cl fp B' L acc hB' => DX.cast (dx_sub (dx_shl dx_int (dx_lenT b.len rfl (DX.unF (dx_var 3 rfl))) ⟨by rw [lenU]; omega, by rw [lenU]; omega, by decide⟩) dx_int) (by rw [lenU]; rfl) rfl⟩
    intro j hj; simpa using hj
  refine qs_nil ⟨_, _, Fz.refl, ?_⟩
  rw [List.set_set]
  exact hQ
abbrev s_nothing : Stmt := inClass (top 2) 7
theorem sc_nothing : FnScope ["self", "_"] ["self"] (defScope s_nothing) := ⟨rfl, rfl, rfl, by decide +kernel, rfl, by decide +kernel, by decide +kernel⟩
-- self=0 _=1
def F_nothing (C : Addr) : FT := fun ds S P _ => ∃ (fs : List (List Str)), ds = [spaceD C fs] ∧ fs.length ≤ 6 ∧ P (.tupP (fs.map fun _ => .int 0)) S
theorem fd_nothing {f C : Addr} {fd : FuncData} (F : Fun K "nothing" "Space.nothing" s_nothing f fd) (b : BI mg) (c : SpC K C) (hb : Binds K fd ["self"] []) : FD P w K mg base T CX0 1 f fd ["self"] (F_nothing C) := by
  refine fd_d F sc_nothing hb (fun ds S P PX h => by obtain ⟨_, rfl, _⟩ := h; rfl) (fun cdv A outer st H E B ds S Q PX hr hF => ?_)
  obtain ⟨fs, rfl, h6, hQ⟩ := hF
  refine qs_ret (d := .tupP (fs.map fun _ => .int 0)) (S' := S) (dx_tupleP b.tuple rfl (DN.dx (dn_lcmap (xs := fs.map rowF) (ys := fs.map fun us => .int 0) (V := fun _ => True) (own := [("_", 1)]) rfl sc_nothing.nd (di_tup (dx_fld (C := C) (gs := spaceL fs) (dx_var 0 rfl) Vw.rfl' c.cl c.names rfl)) (blkOk_by (own := [("_", 1)]) (N := ["self", "_"]) (sc := defScope s_nothing) (by decide +kernel)) (by rw [List.length_map, List.length_map]) (by rw [List.length_map]; omega) (fun _ _ => trivial) ?_)) Vw.rfl') ⟨_, _, Fz.refl, hQ⟩
  intro i x y hx hy
  rw [List.getElem?_map] at hx hy
  obtain ⟨us, hus, rfl⟩ := Option.map_eq_some_iff.mp hx
  rw [hus] at hy
  cases hy
  refine ⟨_, _, ?_, fun s H C cl fp => dg_name 1 sc_nothing.nd, fun s H C cl fp B' L acc hB' => dx_int⟩
  intro j hj; simpa using hj
end
/-! ### checks -/
section
variable {P : Program} {w : World} {K : PySem.W.Frag} {mg : Str → Option Value} {base : Heap} {T : List Addr}
/-- a def with its own table of generator codes -/
structure TabOk (base : Heap) (mg : Str → Option Value) (T : List Addr) (c p : Addr) : Prop where
  tb : GxR.TabB base mg c p
  mem : p ∈ T
abbrev s_is_row_handed : Stmt := top 28
theorem sc_is_row_handed : FnScope ["value"] ["value"] (defScope s_is_row_handed) := ⟨rfl, rfl, rfl, by decide +kernel, rfl, by decide +kernel, by decide +kernel⟩
-- value=0
def F_rowH : FT := fun ds S P _ => ∃ (d : D) (xs : List D), ds = [d] ∧ SqD d xs ∧ P (.bl true) S
theorem fd_rowH {f : Addr} {fd : FuncData} (F : Fun K "is_row" "is_row" s_is_row_handed f fd) (b : BI mg) (hb : Binds K fd ["value"] []) : FD P w K mg base T CX0 1 f fd ["value"] F_rowH := by
  refine fd_d F sc_is_row_handed hb (fun ds S P PX h => by obtain ⟨_, _, rfl, _⟩ := h; rfl) (fun cdv A outer st H E B ds S Q PX hr hF => ?_)
  obtain ⟨d, xs, rfl, hd, hQ⟩ := hF
  obtain ⟨n, hn, h2⟩ := hd.ty
  refine qs_ret (d := .bl true) (S' := S) (dx_isiT (n := n) (ms := ["list", "tuple"]) b.isinstance rfl (dx_var 0 rfl) (da_cons (dx_ty (n := "list") rfl b.list (by decide +kernel)) (da_cons (dx_ty (n := "tuple") rfl b.tuple (by decide +kernel)) da_nil)) hn (by decide) ?_) ⟨_, _, Fz.refl, hQ⟩
  rcases h2 with h2 | h2 <;> subst h2
  · exact (by show PySem.W.kitAny K (.type "list") [.type "list", .type "tuple"] = some true; unfold PySem.W.kitAny; rw [kit_same])
  · exact (by show PySem.W.kitAny K (.type "tuple") [.type "list", .type "tuple"] = some true; unfold PySem.W.kitAny; rw [kit_tup_lst]; show PySem.W.kitAny K (.type "tuple") [.type "tuple"] = some true; unfold PySem.W.kitAny; rw [kit_same])
abbrev s_is_pair : Stmt := top 30
theorem sc_is_pair : FnScope ["value"] ["value"] (defScope s_is_pair) := ⟨rfl, rfl, rfl, by decide +kernel, rfl, by decide +kernel, by decide +kernel⟩
-- value=0
def F_pair : FT := fun ds S P _ => ∃ (x y : D), ds = [.tup [x, y]] ∧ P (.bl true) S
theorem fd_pair {f : Addr} {fd : FuncData} (F : Fun K "is_pair" "is_pair" s_is_pair f fd) (b : BI mg) (hb : Binds K fd ["value"] []) : FD P w K mg base T CX0 1 f fd ["value"] F_pair := by
  refine fd_d F sc_is_pair hb (fun ds S P PX h => by obtain ⟨_, _, rfl, _⟩ := h; rfl) (fun cdv A outer st H E B ds S Q PX hr hF => ?_)
  obtain ⟨x, y, rfl, hQ⟩ := hF
  exact qs_ret (d := .bl true) (S' := S) (dx_andT (S1 := S) (dx_isi (m := "tuple") b.isinstance rfl (dx_var 0 rfl) (dx_ty (n := "tuple") rfl b.tuple (by decide +kernel)) rfl (kit_same _ _)) (dx_one (DX.cast (dx_eqI (dx_lenT b.len rfl (dx_var 0 rfl)) dx_int) rfl rfl))) ⟨_, _, Fz.refl, hQ⟩
abbrev s_is_field : Stmt := top 36
theorem sc_is_field : FnScope ["value", "name"] ["value"] (defScope s_is_field) := ⟨rfl, rfl, rfl, by decide +kernel, rfl, by decide +kernel, by decide +kernel⟩
-- value=0 name=1
def F_field : FT := fun ds S P _ => ∃ us : List Str, ds = [fieldD us] ∧ FieldOk 6 us ∧ P (.bl true) S
theorem fd_field {f c p : Addr} {fd : FuncData} (F : FunC K "is_field" "is_field" s_is_field f fd c) (b : BI mg) (hset : mg "set" = none) (G : Gs K mg) (tb : TabOk base mg T c p) (hg : FN P w K mg base T CX0 3 "is_great" ["value"] F_great) (hb : Binds K fd ["value"] []) : FD P w K mg base T CX0 5 f fd ["value"] F_field := by
  refine fd_g F sc_is_field hb (fun ds S P PX h => by obtain ⟨_, rfl, _⟩ := h; rfl) (fun A outer st H E B ds S Q PX hr hF => ?_)
  obtain ⟨us, rfl, ok, hQ⟩ := hF
  have lenU : (us.map D.str).length = us.length := List.length_map _
  have h2 := ok.two
  have h6 := ok.nm.six
  refine qs_if (k := false) (DW.dt (dw_orF (DT.cast (dt_not (dt_of (dx_isi (m := "tuple") b.isinstance rfl (dx_var 0 rfl) (dx_ty (n := "tuple") rfl b.tuple (by decide +kernel)) rfl (kit_same _ _)))) rfl) (dw_or1 (DT.cast (dt_not (dt_leLe (dx_gI rfl G.FEWEST_NAMES) (dx_lenT b.len rfl (dx_var 0 rfl)) (fun _ => (dx_gI rfl G.MOST_NAMES)))) ?_)))) (fun e => nomatch e) (fun _ => qs_nil ?_)
  · rw [lenU]; simp; omega
  refine qs_ret (d := .bl true) (S' := S) (dx_andT (S1 := S) (DX.cast (dx_all (k := 3) (xs := us.map D.str) (V := fun _ => True) (own := [("name", 1)]) (val := fun _ => .bl true) b.all rfl hr tb.tb rfl tb.mem rfl sc_is_field.nd (blkOk_by (own := [("name", 1)]) (N := ["value", "name"]) (sc := defScope s_is_field) (by decide +kernel)) (di_tup (dx_var 0 rfl)) ⟨fun i x hx => ?_, trivial⟩ (fun _ _ => .inl ⟨true, rfl⟩)) ?_ rfl) (dx_one (DX.cast (dx_eqI (dx_lenSet rfl rfl b.len rfl hset (dx_var 0 rfl) ok.nm.nd (by omega)) (dx_lenT b.len rfl (dx_var 0 rfl))) ?_ rfl))) ⟨_, _, Fz.refl, hQ⟩
  · rw [List.getElem?_map] at hx
    obtain ⟨u, hu, rfl⟩ := Option.map_eq_some_iff.mp hx
    have um := List.mem_of_getElem? hu
    have ul := ok.nm.len u um
    have u25 := nb_mono h6
    refine ⟨_, _, ?_, fun s H code fp pn => dg_name 1 sc_is_field.nd, fun s H code fp pn B' hB' => de_call hg (GX.gA_room hr) rfl pass0 (da_cons (dx_var 1 rfl) da_nil) ⟨u, rfl, ok.nm.gr u um, by omega, rfl, rfl⟩⟩
    intro j hj; simpa using hj
  · congr 1
    rw [List.all_eq_true]
    exact fun _ _ => rfl
  · rw [lenU]; simp
end
end SB
set_option Elab.async false
set_option linter.all false
set_option maxRecDepth 100000
set_option maxHeartbeats 1000000
namespace SB
open PySem PySem.Spec PyProof.Rows L2 DL
section
variable {P : Program} {w : World} {K : PySem.W.Frag} {mg : Str → Option Value} {base : Heap} {T : List Addr}
abbrev s_check_fields : Stmt := top 37
theorem sc_check_fields : FnScope ["fields", "field"] ["fields"] (defScope s_check_fields) := ⟨rfl, rfl, rfl, by decide +kernel, rfl, by decide +kernel, by decide +kernel⟩
-- fields=0 field=1
def F_checkF (C : Addr) : FT := fun ds S P _ => ∃ (d : D) (fs : List (List Str)), ds = [d] ∧ SqD d (fs.map fieldD) ∧ 1 ≤ fs.length ∧ fs.length ≤ 6 ∧ (∀ us ∈ fs, FieldOk 6 us) ∧ P (spaceD C fs) S
theorem fd_checkF {f c p C : Addr} {fd : FuncData} (F : FunC K "check_fields" "check_fields" s_check_fields f fd c) (b : BI mg) (G : Gs K mg) (tb : TabOk base mg T c p) (hrow : FN P w K mg base T CX0 1 "is_row_handed" ["value"] F_rowH) (hf : FN P w K mg base T CX0 5 "is_field" ["value"] F_field) (hC : mg "Space" = some (.ref C)) (hi : FI P w K mg base T CX0 1 C ["self", "fields"] (F_init C)) (hb : Binds K fd ["fields"] []) : FD P w K mg base T CX0 7 f fd ["fields"] (F_checkF C) := by
  refine fd_g F sc_check_fields hb (fun ds S P PX h => by obtain ⟨_, _, rfl, _⟩ := h; rfl) (fun A outer st H E B ds S Q PX hr hF => ?_)
  obtain ⟨d, fs, rfl, hd, h1, h6, hfs, hQ⟩ := hF
  have lenF : (fs.map fieldD).length = fs.length := List.length_map _
  refine qs_if (k := false) (DW.dt (dw_orF (DT.cast (dt_not (dt_of (de_call hrow (hr.mono (by omega)) rfl pass0 (da_cons (dx_var 0 rfl) da_nil) ⟨d, _, rfl, hd, rfl, rfl⟩))) rfl) (dw_or1 (DT.cast (dt_not (dt_leLe dx_int (dx_lenQ b.len rfl (dx_var 0 rfl) hd) (fun _ => (dx_gI rfl G.MOST_FIELDS)))) ?_)))) (fun e => nomatch e) (fun _ => qs_nil ?_)
  · rw [lenF]; simp; omega
  refine qs_if (k := false) (DT.cast (dt_not (dt_of (dx_all (k := 5) (xs := fs.map fieldD) (V := fun _ => True) (own := [("field", 1)]) (val := fun _ => .bl true) b.all rfl hr tb.tb rfl tb.mem rfl sc_check_fields.nd (blkOk_by (own := [("field", 1)]) (N := ["fields", "field"]) (sc := defScope s_check_fields) (by decide +kernel)) (di_sq (dx_var 0 rfl) hd) ⟨fun i x hx => ?_, trivial⟩ (fun _ _ => .inl ⟨true, rfl⟩)))) ?_) (fun e => nomatch e) (fun _ => qs_nil ?_)
  · rw [List.getElem?_map] at hx
    obtain ⟨us, hu, rfl⟩ := Option.map_eq_some_iff.mp hx
    refine ⟨_, _, ?_, fun s H code fp pn => dg_name 1 sc_check_fields.nd, fun s H code fp pn B' hB' => de_call hf (GX.gA_room hr) rfl pass0 (da_cons (dx_var 1 rfl) da_nil) ⟨us, rfl, hfs us (List.mem_of_getElem? hu), rfl, rfl⟩⟩
    intro j hj; simpa using hj
  · have : ((List.range (fs.map fieldD).length).all fun _ => trD (.bl true)) = true := List.all_eq_true.mpr fun _ _ => rfl
    rw [this]; rfl
  refine qs_retE (de_make (P := fun d S' => ∃ l, d = .ref l ∧ S' = S ++ [(l, spaceD C fs)]) hi (hr.mono (by omega)) rfl hC pass0 (da_cons (dx_var 0 rfl) da_nil) fun l => ⟨l, S.length, d, fs, rfl, at_last, hd, h6, fun us hu => (hfs us hu).nm.six, rfl, l, rfl, set_last⟩) ?_
  rintro d S' ⟨l, rfl, rfl⟩
  exact ⟨_, _, Fz.last, hQ⟩
abbrev s_is_thing : Stmt := inClass (top 2) 1
theorem sc_is_thing : FnScope ["self", "value", "name", "row"] ["self", "value"] (defScope s_is_thing) := ⟨rfl, rfl, rfl, by decide +kernel, rfl, by decide +kernel, by decide +kernel⟩
-- self=0 value=1 name=2 row=3
def F_isThing (C : Addr) : FT := fun ds S P _ => ∃ (fs : List (List Str)) (ts : List Str), ds = [spaceD C fs, fieldD ts] ∧ ThingOk fs ts ∧ P (.bl true) S
theorem fd_isThing {f c p C : Addr} {fd : FuncData} (F : FunC K "is_thing" "Space.is_thing" s_is_thing f fd c) (b : BI mg) (sc : SpC K C) (tb : TabOk base mg T c p) (hb : Binds K fd ["self", "value"] []) : FD P w K mg base T CX0 2 f fd ["self", "value"] (F_isThing C) := by
  refine fd_g F sc_is_thing hb (fun ds S P PX h => by obtain ⟨_, _, rfl, _⟩ := h; rfl) (fun A outer st H E B ds S Q PX hr hF => ?_)
  obtain ⟨fs, ts, rfl, ok, hQ⟩ := hF
  have lenT : (ts.map D.str).length = fs.length := by rw [List.length_map, ok.len]
  have lenF : (fs.map rowF).length = fs.length := List.length_map _
  refine qs_if (k := false) (DW.dt (dw_orF (DT.cast (dt_not (dt_of (dx_isi (m := "tuple") b.isinstance rfl (dx_var 1 rfl) (dx_ty (n := "tuple") rfl b.tuple (by decide +kernel)) rfl (kit_same _ _)))) rfl) (dw_or1 (DT.cast (dt_neI (dx_lenT b.len rfl (dx_var 1 rfl)) (dx_lenT b.len rfl (dx_fld (C := C) (gs := spaceL fs) (dx_var 0 rfl) Vw.rfl' sc.cl sc.names rfl))) ?_)))) (fun e => nomatch e) (fun _ => qs_nil ?_)
  · rw [lenT, lenF]; simp
  refine qs_ret (d := .bl true) (S' := S) (DX.cast (dx_all (k := 0) (xs := zipD (ts.map D.str) (fs.map rowF)) (V := fun _ => True) (own := [("name", 2), ("row", 3)]) (val := fun _ => .bl true) b.all rfl hr tb.tb rfl tb.mem rfl sc_is_thing.nd (blkOk_by (own := [("name", 2), ("row", 3)]) (N := ["self", "value", "name", "row"]) (sc := defScope s_is_thing) (by decide +kernel)) (di_zip b.zip rfl (dx_var 1 rfl) (dx_fld (C := C) (gs := spaceL fs) (dx_var 0 rfl) Vw.rfl' sc.cl sc.names rfl)) ⟨fun i x hx => ?_, trivial⟩ (fun _ _ => .inl ⟨true, rfl⟩)) ?_ rfl) ⟨_, _, Fz.refl, hQ⟩
  · obtain ⟨x, y, h1, h2, rfl⟩ := zipD_of hx
    rw [List.getElem?_map] at h1 h2
    obtain ⟨t, ht, rfl⟩ := Option.map_eq_some_iff.mp h1
    obtain ⟨us, hus, rfl⟩ := Option.map_eq_some_iff.mp h2
    refine ⟨_, _, ?_, fun s H code fp pn => dg_pair 2 3 sc_is_thing.nd rfl, fun s H code fp pn B' hB' => dx_andT (S1 := S) (dx_isi (m := "str") b.isinstance rfl (dx_var 2 rfl) (dx_ty (n := "str") rfl b.str (by decide +kernel)) rfl (kit_same _ _)) (dx_one (DX.cast (dx_inTs (ts := srt us) (dx_var 2 rfl) (DX.unF (dx_var 3 rfl)) (.inr rfl)) ?_ rfl))⟩
    · intro j hj; simpa using hj
    · rw [decide_eq_true (srt_mem.mpr (ok.mem i us t hus ht))]
  · congr 1
    exact List.all_eq_true.mpr fun _ _ => rfl
/-- a thing's masks -/
def maskI (us : List Str) (t : Str) : Int := 1 * 2 ^ (((srt us).idxOf t : Nat) : Int).toNat
def masksOf : List (List Str) → List Str → List Int
  | us :: fs, t :: ts => maskI us t :: masksOf fs ts
  | _, _ => []
theorem masksOf_len : ∀ {fs : List (List Str)} {ts : List Str}, ts.length = fs.length → (masksOf fs ts).length = fs.length
  | [], [], _ => rfl
  | [], _ :: _, h => by simp at h
  | _ :: _, [], h => by simp at h
  | us :: fs, t :: ts, h => by
    show (masksOf fs ts).length + 1 = fs.length + 1
    rw [masksOf_len (by simpa using h)]
theorem masksOf_get : ∀ {fs : List (List Str)} {ts : List Str} {i : Nat} {us : List Str} {t : Str}, fs[i]? = some us → ts[i]? = some t → (masksOf fs ts)[i]? = some (maskI us t)
  | [], _, _, _, _, h, _ => by simp at h
  | _ :: _, [], _, _, _, _, h => by simp at h
  | a :: fs, b :: ts, 0, us, t, h, k => by simp at h k; subst h; subst k; rfl
  | a :: fs, b :: ts, i + 1, us, t, h, k => by
    show (masksOf fs ts)[i]? = _
    exact masksOf_get (by simpa using h) (by simpa using k)
theorem idx_first {us : List Str} {t : Str} (h : t ∈ us) : us[us.idxOf t]? = some t ∧ ∀ m, m < us.idxOf t → us[m]? ≠ some t := by
  refine ⟨by rw [List.getElem?_eq_getElem (List.idxOf_lt_length_of_mem h)]; simp, fun m hm e => ?_⟩
  have hlt := (List.getElem?_eq_some_iff.mp e)
  have : us.idxOf t ≤ m := by
    have := List.not_of_lt_findIdx (p := (· == t)) (xs := us) (i := m) (by simpa [List.idxOf] using hm)
    simp at this
    exact absurd hlt.2 this
  omega
abbrev s_masks_of : Stmt := inClass (top 2) 3
theorem sc_masks_of : FnScope ["self", "thing", "name", "row"] ["self", "thing"] (defScope s_masks_of) := ⟨rfl, rfl, rfl, by decide +kernel, rfl, by decide +kernel, by decide +kernel⟩
-- self=0 thing=1 name=2 row=3
def F_masks (C : Addr) : FT := fun ds S P _ => ∃ (fs : List (List Str)) (ts : List Str), ds = [spaceD C fs, fieldD ts] ∧ ThingOk fs ts ∧ fs.length ≤ 6 ∧ (∀ us ∈ fs, us.length ≤ 6) ∧ P (.tup ((masksOf fs ts).map D.int)) S
theorem fd_masks {f C : Addr} {fd : FuncData} (F : Fun K "masks_of" "Space.masks_of" s_masks_of f fd) (b : BI mg) (sc : SpC K C) (hb : Binds K fd ["self", "thing"] []) : FD P w K mg base T CX0 1 f fd ["self", "thing"] (F_masks C) := by
  refine fd_d F sc_masks_of hb (fun ds S P PX h => by obtain ⟨_, _, rfl, _⟩ := h; rfl) (fun cdv A outer st H E B ds S Q PX hr hF => ?_)
  obtain ⟨fs, ts, rfl, ok, h6, hf6, hQ⟩ := hF
  have lenZ : (zipD (ts.map D.str) (fs.map rowF)).length = fs.length := by rw [zipD_length, List.length_map, List.length_map, ok.len]; omega
  refine qs_ret (dx_tuple b.tuple rfl (DN.dx (dn_lcmap (xs := zipD (ts.map D.str) (fs.map rowF)) (ys := (masksOf fs ts).map D.int) (V := fun _ => True) (own := [("name", 2), ("row", 3)]) rfl sc_masks_of.nd (di_zip b.zip rfl (dx_var 1 rfl) (dx_fld (C := C) (gs := spaceL fs) (dx_var 0 rfl) Vw.rfl' sc.cl sc.names rfl)) (blkOk_by (own := [("name", 2), ("row", 3)]) (N := ["self", "thing", "name", "row"]) (sc := defScope s_masks_of) (by decide +kernel)) (by rw [lenZ, List.length_map, masksOf_len ok.len]) (by omega) (fun _ _ => trivial) ?_)) (.inl Vw.rfl')) ⟨_, _, Fz.refl, hQ⟩
  intro i x y hx hy
  obtain ⟨x, z, h1, h2, rfl⟩ := zipD_of hx
  rw [List.getElem?_map] at h1 h2
  obtain ⟨t, ht, rfl⟩ := Option.map_eq_some_iff.mp h1
  obtain ⟨us, hus, rfl⟩ := Option.map_eq_some_iff.mp h2
  rw [List.getElem?_map, masksOf_get hus ht] at hy
  cases hy
  have tm : t ∈ srt us := srt_mem.mpr (ok.mem i us t hus ht)
  obtain ⟨i1, i2⟩ := idx_first tm
  have il := List.idxOf_lt_length_of_mem tm
  have u6 := hf6 us (List.mem_of_getElem? hus)
  rw [srt_length] at il
  refine ⟨_, _, ?_, fun s H C cl fp => dg_pair 2 3 sc_masks_of.nd rfl, fun s H C cl fp B' L acc hB' => dx_shl dx_int (dx_tindex (dx_var 3 rfl) (dx_var 2 rfl) i1 i2) ⟨by omega, by omega, by decide⟩⟩
  intro j hj; simpa using hj
end
end SB
set_option Elab.async false
set_option linter.all false
set_option maxRecDepth 100000
set_option maxHeartbeats 4000000
namespace ST
open PySem PySem.Spec PyProof.Rows L2 PpSet
section
variable {X : Cx} {pins : List (Addr × Obj)} {σ : L2.St} {H : Hp} {s : Shared}
/-- a tuple of ints is added to a tracked set of such -/
theorem addT_ok {A : Around} {E : Value → Shared → Prop} {D x : Addr} {k : List Int} {L : List (Addr × List Int)} {Q : Value → Shared → Prop} (I : Inv X pins σ H s) (hu : A.units + 64 < cLine) (hx : SqT X.K H x (k.map V.int)) (hD : H D = some (SetTO X.prog X.w D L))
    (hall : ∀ p ∈ L, SqT X.K H p.1 (p.2.map V.int)) (few : L.length + 1 < 64)
    (h : ∀ L' s', (k ∈ L.map (·.2) → L' = L) → (k ∉ L.map (·.2) → L'.Perm ((x, k) :: L)) → Inv X pins σ (upd H D (SetTO X.prog X.w D L')) s' → Q .none s') : wpAny (model X.prog X.w) A (call (.builtin "set.add") [.ref D, .ref x]) Q E s := by
  have R0 : SetT0 X.prog X.w s.heap D L := (I.hok D _ hD).1
  obtain ⟨es, ep, t, R⟩ := R0.full fun p hp => I.isT (hall p hp)
  obtain ⟨o, ho, hex, hd⟩ := R.ob
  have hI := I.isT hx
  refine wpAny_call_entry PySem.F.slot_set_add ⟨o, ho, hex.1⟩ PySem.F.entry_set_add ?_ (PySem.F.args_set_add_2 _ _)
  unfold Builtin.«set.add» Builtin.Frozenset.oneOther
  simp only [List.isEmpty_nil, bind_assoc]
  unfold Builtin.Frozenset.addrOf setAdd
  refine wpAny_bind (wpAny_pure ?_)
  try dsimp only
  refine wpAny_bind (wpAny_pure ?_)
  try dsimp only
  refine wpAny_bind (wpAny_holding (wpAny_bind (wpAny_pyHash_tuple (by show A.units + 1 < cLine; omega) hI ?_)))
  refine add_at (s := { s with toks := s.toks + (k.length + 1) }) R hI (by show A.units + 1 < cLine; omega) few fun b h' L' es' ep' t' hsb hS2 c1 c2 => ?_
  refine wpAny_pure ⟨_, rfl, h L' _ c1 c2 (I.write (e := D) (t' := s.toks + (k.length + 1)) (by rw [hD]; trivial) (.inl rfl) (fun b u hb hu => (hsb.2 b hb).trans hu) ?_ (setTO_new hS2.t0))⟩
  obtain ⟨o2, ho2, _⟩ := hS2.ob
  exact ⟨o2, ho2⟩
end
section
variable {X : Cx}
/-- {elt for tg in iter if ..}, elt a tuple of ints: D the new set -/
def tScT (K : PySem.W.Frag) (P : Program) (w : World) (wi : TI) (g : TG) (tt : TT) (te : TE) (vs : List Nat) : TE := fun σ H Q => wi σ H fun J H1 => ∀ D, H1 D = none → ∃ W : Nat → Nat → Hp → Prop, (∃ m, W 0 m (upd H1 D (SetTO P w D []))) ∧ ∀ i m H, W i m H →
  (J.stop i H ∧ Q (.ref D) H) ∨ (J.go i H ∧ ∃ Nx : Hp → Prop, (∀ H', Nx H' → ∃ m', m' < m ∧ W (i + 1) m' H') ∧ ∀ x H', J.yld i H x H' → g x (wipe σ vs) H' fun σ2 H2 => wipe σ2 vs = wipe σ vs ∧ tt σ2 H2 fun b H3 =>
    if b = true then te σ2 H3 fun y H4 => ∃ (x : Addr) (k : List Int) (L : List (Addr × List Int)), y = .ref x ∧ SqT K H4 x (k.map V.int) ∧ H4 D = some (SetTO P w D L) ∧ (∀ p ∈ L, SqT K H4 p.1 (p.2.map V.int)) ∧ L.length + 1 < 64 ∧
      ∀ L', (k ∈ L.map (·.2) → L' = L) → (k ∉ L.map (·.2) → L'.Perm ((x, k) :: L)) → Nx (upd H4 D (SetTO P w D L')) else Nx H3)
theorem sc_tups {pins : List (Addr × Obj)} {s : Shared} {σ : L2.St} {H : Hp} {Q : VK} {elt tg iter : Expr} {ifs : List Expr} {scope : Scope} {own : List (PySem.Str × Nat)} {pos pos' : Pos} {wi : TI} {g : TG} {tt : TT} {te : TE} {use : Option (Value → Sem Unit)} {Qf : Value → Shared → Prop}
    (hc : X.calm = true) (hN : X.N.Nodup) (I : Inv X pins σ H s) (hi : PI X tg iter wi) (ok : BlkOk X.N X.env.scope scope own)
    (hg : ∀ (s : Shared) (H : Hp) (C : Addr) (cl : List (PySem.Str × Addr)) (fp : List Addr), PG (X.blk s H scope (compEnvC scope cl C X.env) fp) tg g) (ht : ∀ (s : Shared) (H : Hp) (C : Addr) (cl : List (PySem.Str × Addr)) (fp : List Addr), PTs (X.blk s H scope (compEnvC scope cl C X.env) fp) ifs tt)
    (he : ∀ (s : Shared) (H : Hp) (C : Addr) (cl : List (PySem.Str × Addr)) (fp : List Addr), PE (X.blk s H scope (compEnvC scope cl C X.env) fp) elt te) (hs : ∀ x, foldedSetIterable iter X.env x = pure x)
    (hu : X.A.units + 64 < cLine) (h : tScT X.K X.prog X.w wi g tt te (own.map (·.2)) σ H Q)
    (hRR : ∀ D C s' m H', Inv X pins σ H' s' → Q (.ref D) H' → s'.heap.Ns C m → FpOk X pins H' C → compPost (model X.prog X.w) X.A X.xe use Qf (.ref D) C (.ok .next) s') :
    wpAny (model X.prog X.w) X.A (comprehension (.SetComp elt [⟨tg, iter, ifs, 0⟩] scope pos) scope X.env pos' (newSet (.type "set")) false (eval iter X.env) use) Qf X.xe s := by
  have fr0 : ∀ y ∈ scope.names, y.2 = .free → ∃ c, X.env.cells.lookup y.1 = some c := fun y hy e => by
    rcases ok.free y hy e with k | k
    · exact I.ok.has _ (.inl k)
    · exact I.ok.has _ (.inr k)
  refine wpAny_comprehension_free (use := use) rfl hs (closure_ok fr0) ok.kind (fun y hy e => by rw [ok.uniq y hy, e])
    (thn (hi.run pins s σ H _ I h) fun xv s1 hx => thn hx fun itv s2 h2 => ?_)
  obtain ⟨it, fp, tn, J, H2, e, I2, T, st2, f2, q⟩ := h2
  subst e
  refine newSet_ok (newEnv_comp ?_)
  generalize eD : s2.heap.objs.size = D
  have dn0 : H2 D = none := I2.hok.fresh (Nat.le_of_eq eD)
  obtain ⟨W, ⟨m0, w0⟩, turn⟩ := q D dn0
  -- the new list
  generalize es3 : ({ s2 with heap := s2.heap.push { cls := .type "set", dict := none, data := .set #[] 0 (.fresh 0 0 (!X.w.params.followText "set-order")) } } : Shared) = s3
  have I3 : Inv X pins σ (upd H2 D (SetTO X.prog X.w D [])) s3 := by
    rw [← es3]
    refine I2.laid (t' := s2.toks) (fun b o e => Heap.get?_push_of_some _ e) (Nat.le_of_eq eD) ?_
    rw [← eD]
    exact setTO_new (setTR_fresh (P := X.prog) (w := X.w) (Heap.get?_push_size _ rfl)).t0
  have h3 : s3.heap = s2.heap.push { cls := .type "set", dict := none, data := .set #[] 0 (.fresh 0 0 (!X.w.params.followText "set-order")) } := by rw [← es3]
  have ss0 : ∀ b ∈ fp, b < s2.heap.objs.size := fun b hb => by
    obtain ⟨o, e, _⟩ := T.obj _ _ st2 b hb
    exact Heap.lt_size e
  have g3 : ∀ b ∈ fp, FpOk X pins (upd H2 D (SetTO X.prog X.w D [])) b ∧ b < s3.heap.objs.size := fun b hb => by
    have hlt := ss0 b hb
    refine ⟨⟨?_, (f2 b hb).2⟩, by rw [h3, Heap.size_push]; exact Nat.lt_succ_of_lt hlt⟩
    rw [upd_ne (by rw [← eD]; exact Nat.ne_of_lt hlt)]
    exact (f2 b hb).1
  have t3 : tn 0 s3.heap := T.keep _ _ _ st2 fun b _ o e => by rw [h3]; exact Heap.get?_push_of_some _ e
  have I4 := block_start I3 ok hN g3
  have pgu := hg s3 (upd H2 D (SetTO X.prog X.w D [])) s3.heap.objs.size (cellsFrom (s3.heap.objs.size + 1) scope.names (cloFrom X.env.cells scope.names [])) fp
  have ptu := ht s3 (upd H2 D (SetTO X.prog X.w D [])) s3.heap.objs.size (cellsFrom (s3.heap.objs.size + 1) scope.names (cloFrom X.env.cells scope.names [])) fp
  have peu := he s3 (upd H2 D (SetTO X.prog X.w D [])) s3.heap.objs.size (cellsFrom (s3.heap.objs.size + 1) scope.names (cloFrom X.env.cells scope.names [])) fp
  show codeAny _ _ (.compStart (.SetComp elt [⟨tg, iter, ifs, 0⟩] scope pos) 0 (.ref it) (.ref D) (compEnvC scope (cellsFrom (s3.heap.objs.size + 1) scope.names (cloFrom X.env.cells scope.names [])) s3.heap.objs.size X.env)) (compPost (model X.prog X.w) X.A X.xe use Qf (.ref D) s3.heap.objs.size) { s3 with heap := pushCells (s3.heap.push { cls := .type "dict", data := .dict #[] }) scope.names }
  have nf0 : ∀ b ∈ fp, (upd H2 D (SetTO X.prog X.w D [])) b = none := fun b hb => (g3 b hb).1.1
  generalize ece : compEnvC scope (cellsFrom (s3.heap.objs.size + 1) scope.names (cloFrom X.env.cells scope.names [])) s3.heap.objs.size X.env = ce at I4 pgu ptu peu ⊢
  have clo : ce.locals = s3.heap.objs.size := by subst ece; rfl
  generalize eH3 : upd H2 D (SetTO X.prog X.w D []) = H3 at I3 I4 pgu ptu peu w0 nf0 g3
  generalize es4 : ({ s3 with heap := pushCells (s3.heap.push { cls := .type "dict", data := .dict #[] }) scope.names } : Shared) = s4 at I4 ⊢
  have t4 : tn 0 s4.heap := T.keep _ _ _ t3 fun b _ o e => by rw [← es4]; exact pushCells_keeps _ _ _ _ (Heap.get?_push_of_some _ e)
  have sta : ∀ {σ' : L2.St} {H' : Hp} {s' : Shared}, Inv (X.blk s3 H3 scope ce fp) [] σ' H' s' → (∀ b ∈ fp, H' b = none) → ∀ b ∈ fp, FpOk (X.blk s3 H3 scope ce fp) [] H' b := fun {σ' H' s'} I' hn b hb =>
    ⟨hn b hb, (I'.ok.exf b hb).1, I'.ok.exfs b hb, .inl hb, fun x c e => (I'.ok.exf b hb).2 x c e, fun p hp => absurd (show p ∈ ([] : List (Addr × Obj)) ++ [] from hp) (by simp)⟩
  have loop : codeAny (model X.prog X.w) X.A (.compLoop (.SetComp elt [⟨tg, iter, ifs, 0⟩] scope pos) 0 (.ref it) (.ref D) ce) (compPost (model X.prog X.w) X.A X.xe use Qf (.ref D) s3.heap.objs.size) s4 := by
    refine compLoopS_any (fun n s' => ∃ i H', Inv (X.blk s3 H3 scope ce fp) [] (wipe σ (own.map (·.2))) H' s' ∧ tn i s'.heap ∧ (∀ b ∈ fp, H' b = none) ∧ W i n H') ?_ m0 ⟨0, H3, I4, t4, nf0, w0⟩
    rintro n s5 ⟨i, H5, I5, t5, n5, w5⟩
    rcases turn i n H5 w5 with ⟨stop, qq⟩ | ⟨go, Nx, hNx, step⟩
    · have td := T.done (X.blk s3 H3 scope ce fp) rfl rfl rfl hc i [] s5 _ H5 (fun _ _ => False) I5 (sta I5 n5) t5 stop
      refine thnF td fun r s6 ⟨hr, I6⟩ => ?_
      subst hr
      -- back in the def's context
      have I7 : Inv X pins σ H5 s6 := I3.call' (ch := fp) I6.os I6.base I6.hok I6.bare fun b hb => ⟨(g3 b hb).1.2.2.2.1, (g3 b hb).1.2.1, (g3 b hb).1.2.2.2.2.1, (g3 b hb).1.2.2.2.2.2⟩
      have nC : H5 s3.heap.objs.size = none := by
        have z : H5 ce.locals = none := I6.free
        rw [clo] at z
        exact z
      obtain ⟨m, hn, _⟩ := I6.loc
      have hn : s6.heap.Ns ce.locals m := hn
      rw [clo] at hn
      exact hRR D s3.heap.objs.size s6 m H5 I7 qq hn (I3.fpOk (Nat.le_refl _) nC)
    · have ti := T.item (X.blk s3 H3 scope ce fp) rfl rfl rfl hc i [] s5 _ H5 (fun _ _ => False) I5 (sta I5 n5) t5 go
      refine thnF ti fun r s6 ⟨u, hr, h6⟩ => ?_
      subst hr
      refine thnF h6 fun _ s7 ⟨x, H7, I7, r7, y7, t7, n7⟩ => ?_
      have I7' := I7.pinned (sta I7 n7) (T.obj _ _ t7)
      refine thnF (pgu.run _ s7 _ H7 x u _ I7' r7 (step x H7 y7)) fun _ s8 ⟨σ8, H8, I8, hw8, q8⟩ => ?_
      refine thnF (ptu.run _ s8 σ8 H8 _ I8 q8) fun b s9 ⟨H9, I9, q9⟩ => ?_
      -- the turn's end
      have ende : ∀ {s' : Shared} {H' : Hp}, Inv (X.blk s3 H3 scope ce fp) ([] ++ pinsAt fp s7.heap) σ8 H' s' → Nx H' → ∃ m, m < n ∧ ∃ i H', Inv (X.blk s3 H3 scope ce fp) [] (wipe σ (own.map (·.2))) H' s' ∧ tn i s'.heap ∧ (∀ b ∈ fp, H' b = none) ∧ W i m H' := fun {s' H'} I' nx => by
        obtain ⟨m', hm, w'⟩ := hNx H' nx
        have pin' : ∀ b ∈ fp, ∀ o, s7.heap.get? b = some o → s'.heap.get? b = some o ∧ H' b = none := fun b hb o e =>
          let z := I'.pin (b, o) (List.mem_append_right _ (List.mem_append_right _ (mem_pinsAt hb e)))
          ⟨z.1, z.2.1⟩
        have hl : (wipe σ (own.map (·.2))).length = σ8.length := by rw [← hw8, wipe_length]
        refine ⟨m', hm, i + 1, H', (I'.unpinned (pins := [])).weak hl (fun j v e => ?_), T.keep _ _ _ t7 fun b hb o e => (pin' b hb o e).1, fun b hb => ?_, w'⟩
        · rw [← hw8] at e
          exact (wipe_some e).1
        · obtain ⟨o, e, _⟩ := T.obj _ _ t7 b hb
          exact (pin' b hb o e).2
      cases b with
      | false =>
        simp only [Bool.false_eq_true, if_false] at q9 ⊢
        exact ende I9 q9
      | true =>
        simp only [if_true] at q9 ⊢
        refine thnF (peu.run _ s9 σ8 H9 _ I9 q9) fun z s10 ⟨yv, H10, I10, r10, xa, ka, L0, ey, hsq, hD10, hall, hfw, nx⟩ => ?_
        subst ey
        cases r10
        exact addT_ok (X := X.blk s3 H3 scope ce fp) I10 hu hsq hD10 hall hfw fun L1 s11 g1 g2 I11 => ende I11 (nx L1 g1 g2)
  exact codeAny_compStart_set loop (T.self X.A 0 _ _ _ t4 loop)
/-- as a value -/
theorem pe_scT {elt tg iter : Expr} {ifs : List Expr} {scope : Scope} {own : List (PySem.Str × Nat)} {pos : Pos} {wi : TI} {g : TG} {tt : TT} {te : TE} (hc : X.calm = true) (hN : X.N.Nodup) (hu : X.A.units + 64 < cLine) (hi : PI X tg iter wi) (ok : BlkOk X.N X.env.scope scope own)
    (hg : ∀ (s : Shared) (H : Hp) (C : Addr) (cl : List (PySem.Str × Addr)) (fp : List Addr), PG (X.blk s H scope (compEnvC scope cl C X.env) fp) tg g) (ht : ∀ (s : Shared) (H : Hp) (C : Addr) (cl : List (PySem.Str × Addr)) (fp : List Addr), PTs (X.blk s H scope (compEnvC scope cl C X.env) fp) ifs tt)
    (he : ∀ (s : Shared) (H : Hp) (C : Addr) (cl : List (PySem.Str × Addr)) (fp : List Addr), PE (X.blk s H scope (compEnvC scope cl C X.env) fp) elt te) (hs : ∀ x, foldedSetIterable iter X.env x = pure x := by intro _; rfl) :
    PE X (.SetComp elt [⟨tg, iter, ifs, 0⟩] scope pos) (tScT X.K X.prog X.w wi g tt te (own.map (·.2))) := ⟨fun pins s σ H Q I h => by
  rw [eval_SetComp]
  refine sc_tups hc hN I hi ok hg ht he hs hu h fun D C s' m H' I' q hn ⟨f0, f1, f2, f3, f4, f5⟩ => ⟨m, hn, fun h'' sb => ?_⟩
  exact ⟨.ref D, H', I'.turned (t' := s'.toks) (fun b o hb e => (sb.2 b hb).trans e) f0 f1 f3 f4 f5, rfl, q⟩⟩
end
end ST
set_option Elab.async false
set_option linter.all false
set_option maxRecDepth 100000
set_option maxHeartbeats 4000000
namespace DL
open PySem PySem.Spec PyProof.Rows L2
/-! ### an object that no data speaks of may change -/
section
variable {K : PySem.W.Frag} {T : List Addr} {M : List Addr} {H : Hp} {D0 : Addr} {φ : Heap → Prop} {o : HO} {S : Sto}
theorem Rd.neE {a : Addr} {u : HO} (hD : H D0 = some (.ext φ)) (h : Rd H a u) (hu : ∀ ψ, u ≠ .ext ψ) : a ≠ D0 := fun z => by
  rcases h with h | ⟨b, h⟩
  · rw [z, hD] at h; exact hu φ (Option.some.inj h).symm
  · rw [z, hD] at h; cases h
theorem Rd.updE {a : Addr} {u : HO} (hD : H D0 = some (.ext φ)) (h : Rd H a u) (hu : ∀ ψ, u ≠ .ext ψ) : Rd (upd H D0 o) a u := by
  have n := Rd.neE hD h hu
  rcases h with h | ⟨b, h⟩
  · exact .inl ((upd_ne n).trans h)
  · exact .inr ⟨b, (upd_ne n).trans h⟩
mutual
theorem Rep.updE (hD : H D0 = some (.ext φ)) : ∀ {v : V} {d : D}, Rep K M H v d → Rep K M (upd H D0 o) v d
  | _, _, .non => .non
  | _, _, .bl b => .bl b
  | _, _, .int i => .int i
  | _, _, .str x => .str x
  | _, _, .ty n => .ty n
  | _, _, .ref a => .ref a
  | _, _, .tupK h r => .tupK h (Reps.updE hD r)
  | _, _, .tup ha h r => .tup ha (Rd.updE hD h fun _ z => by cases z) (Reps.updE hD r)
  | _, _, .tupP ha h r => .tupP ha ((upd_ne fun z => by rw [z, hD] at h; cases h).trans h) (Reps.updE hD r)
  | _, _, .tupF ha h n r => .tupF ha ((upd_ne fun z => by rw [z, hD] at h; cases h).trans h) n (Reps.updE hD r)
  | _, _, .lst ha h r => .lst ha (Rd.updE hD h fun _ z => by cases z) (Reps.updE hD r)
  | _, _, .lstQ h r => .lstQ (h.imp_right fun ⟨ha, h⟩ => ⟨ha, Rd.updE hD h fun _ z => by cases z⟩) (Reps.updE hD r)
  | _, _, .obj ha h e r => .obj ha ((upd_ne fun z => by rw [z, hD] at h; cases h).trans h) e (Reps.updE hD r)
  | _, _, .dK ha h e r => .dK ha (Rd.updE hD h fun _ z => by cases z) e (Reps.updE hD r)
  | _, _, .dT ha h e r => .dT ha (Rd.updE hD h fun _ z => by cases z) e (Reps.updE hD r)
  | _, _, .dKF ha h e r => .dKF ha ((upd_ne fun z => by rw [z, hD] at h; cases h).trans h) e (Reps.updE hD r)
theorem Reps.updE (hD : H D0 = some (.ext φ)) : ∀ {vs : List V} {ds : List D}, Reps K M H vs ds → Reps K M (upd H D0 o) vs ds
  | _, _, .nil => .nil
  | _, _, .cons r t => .cons (Rep.updE hD r) (Reps.updE hD t)
end
theorem RepAt.updE {a : Addr} {d : D} (hD : H D0 = some (.ext φ)) (r : RepAt K M H a d) : RepAt K M (upd H D0 o) a d := by
  have ne : ∀ {u : HO}, H a = some u → (∀ ψ, u ≠ .ext ψ) → upd H D0 o a = some u := fun {u} h hu => (upd_ne fun z => by rw [z, hD] at h; exact hu φ (Option.some.inj h).symm).trans h
  cases d with
  | lst ds => obtain ⟨vs, q, r⟩ := r; exact ⟨vs, ne q (fun _ z => by cases z), r.updE hD⟩
  | obj C gs => obtain ⟨dx, fs, q, z, r⟩ := r; exact ⟨dx, fs, ne q (fun _ z => by cases z), z, r.updE hD⟩
  | dK gs => obtain ⟨fs, q, z, r⟩ := r; exact ⟨fs, ne q (fun _ z => by cases z), z, r.updE hD⟩
  | dT gs => obtain ⟨fs, q, z, r⟩ := r; exact ⟨fs, ne q (fun _ z => by cases z), z, r.updE hD⟩
  | _ => exact r.elim
theorem GoodS.updE (g : GoodS K T H S) (hD : H D0 = some (.ext φ)) : GoodS K T (upd H D0 o) S := ⟨fun p hp => (g.own p hp).updE hD, g.nd, fun P hP => by
  obtain ⟨ps, h1, h2⟩ := g.tab P hP
  exact ⟨ps, (upd_ne fun z => by rw [z, hD] at h1; cases h1).trans h1, h2⟩⟩
theorem GoodS.notE (g : GoodS K T H S) (hD : H D0 = some (.ext φ)) : D0 ∉ mm S := fun z => by
  obtain ⟨p, hp, e⟩ := List.mem_map.mp z
  have r := g.own p hp
  rw [e] at r
  generalize p.2 = d at r
  cases d with
  | lst ds => obtain ⟨vs, q, r⟩ := r; rw [hD] at q; cases q
  | obj C gs => obtain ⟨dx, fs, q, z, r⟩ := r; rw [hD] at q; cases q
  | dK gs => obtain ⟨fs, q, z, r⟩ := r; rw [hD] at q; cases q
  | dT gs => obtain ⟨fs, q, z, r⟩ := r; rw [hD] at q; cases q
  | _ => exact r.elim
theorem GoodS.notT (g : GoodS K T H S) {a : Addr} {xs : List V} (h : Rd H a (.tup xs)) : a ∉ mm S := fun z => by
  obtain ⟨p, hp, e⟩ := List.mem_map.mp z
  have r := g.own p hp
  rw [e] at r
  generalize p.2 = d at r
  have no : ∀ {u : HO}, H a = some u → (∀ ys, u ≠ .tup ys) → (∀ b y, u ≠ .frz b y) → False := fun {u} q n1 n2 => by
    rcases h with h | ⟨b, h⟩ <;> rw [q] at h <;> cases h
    · exact n1 _ rfl
    · exact n2 _ _ rfl
  cases d with
  | lst ds => obtain ⟨vs, q, r⟩ := r; exact no q (fun _ z => by cases z) fun _ _ z => by cases z
  | obj C gs => obtain ⟨dx, fs, q, z, r⟩ := r; exact no q (fun _ z => by cases z) fun _ _ z => by cases z
  | dK gs => obtain ⟨fs, q, z, r⟩ := r; exact no q (fun _ z => by cases z) fun _ _ z => by cases z
  | dT gs => obtain ⟨fs, q, z, r⟩ := r; exact no q (fun _ z => by cases z) fun _ _ z => by cases z
  | _ => exact r.elim
theorem SqT.to {S' : Sto} {H' : Hp} {a : Addr} {xs : List V} (h : SqT K H a xs) (g : GoodS K T H S) (e : Ext (mm S) (mm S') H H') : SqT K H' a xs := by
  rcases h with h | h
  · exact .inl (Rd.ext e (g.notT h) h fun _ z => by cases z)
  · exact .inr h
theorem SqT.updE {a : Addr} {xs : List V} (h : SqT K H a xs) (hD : H D0 = some (.ext φ)) : SqT K (upd H D0 o) a xs := by
  rcases h with h | h
  · exact .inl (Rd.updE hD h fun _ z => by cases z)
  · exact .inr h
theorem SqT.rep {a : Addr} {ks : List Int} (h : SqT K H a (ks.map V.int)) (g : GoodS K T H S) : Rep K (mm S) H (.ref a) (.tup (ks.map D.int)) := by
  rcases h with h | h
  · exact .tup (g.notT h) h (Reps.ofInts ks)
  · exact .tupK h (Reps.ofInts ks)
end
section
variable {X : Cx} {T : List Addr} {B : Bk} {elt tg iter c : Expr} {ifs : List Expr} {scope : Scope} {own : List (Str × Nat)} {ρ : Rho} {S S1 : Sto} {xs : List D} {Vw0 : Sto → Prop} {pos p pos2 : Pos}
/-- the turns of a set comprehension of int tuples: bs says which are taken, val what they give -/
structure ScOk (X : Cx) (T : List Addr) (B : Bk) (elt tg : Expr) (ifs : List Expr) (scope : Scope) (vs : List Nat) (ρ : Rho) (xs : List D) (Vw0 : Sto → Prop) (S1 : Sto) (bs : Nat → Bool) (val : Nat → List Int) : Prop where
  hs : ∀ (i : Nat) x, xs[i]? = some x → ∃ ρ1 ix, (∀ j ∈ ix, j ∈ vs) ∧ (∀ s H C cl fp, DG (Cx.lc X scope s H C cl fp) tg x (wipeR ρ vs) ρ1 ix) ∧ (∀ s H C cl fp B', B.Le B' → DTs (Cx.lc X scope s H C cl fp) T B' ifs ρ1 S1 (bs i) S1) ∧
    (bs i = true → ∀ s H C cl fp B', B.Le B' → DX (Cx.lc X scope s H C cl fp) T B' elt ρ1 S1 (.tup ((val i).map D.int)) S1)
  hV : Vw0 S1
theorem de_sortSet {bs : Nat → Bool} {val : Nat → List Int} {d : Nat} {Z : Int} (hc : X.calm = true) (hN : X.N.Nodup) (hu : X.A.units + 64 < cLine) (hm : X.mg "sorted" = none) (hg : Gl X "sorted") (hi : DI X T B tg iter ρ S xs Vw0 S1) (ok : BlkOk X.N X.env.scope scope own)
    (O : ScOk X T B elt tg ifs scope (own.map (·.2)) ρ xs Vw0 S1 bs val) (h64 : xs.length < 64) (hd : 1 ≤ d) (hb : ∀ i, i < xs.length → bs i = true → (val i).length = d ∧ TS.Bd Z (val i)) (hs : ∀ x, foldedSetIterable iter X.env x = pure x := by intro _; rfl)
    (he : starEach [.SetComp elt [⟨tg, iter, ifs, 0⟩] scope pos] X.env = (false, eval (.SetComp elt [⟨tg, iter, ifs, 0⟩] scope pos) X.env) :: starEach [] X.env := by rfl) :
    DE X T B (.Call (.Name "sorted" p) [.SetComp elt [⟨tg, iter, ifs, 0⟩] scope pos] [] pos2) ρ S (fun r S' => ∃ (l : Addr) (ks : List (List Int)), r = .ref l ∧ S' = S1 ++ [(l, .lst (ks.map fun k => .tup (k.map D.int)))] ∧ ks.Nodup ∧ (∀ k, k ∈ ks ↔ ∃ i, i < xs.length ∧ bs i = true ∧ val i = k) ∧ ks.Pairwise fun k k' => TS.code Z k ≤ TS.code Z k') := fun σ H g sl => by
  refine wE_of (pe_callB (id := "sorted") (r := rSortedT X.K X.prog X.w) (cr_sortedT hc) hg hm (by decide +kernel) (pa_cons (ST.pe_scT (own := own) hc hN hu pi_w ok pg_U pts_U pe_U hs) pa_nil he) (by decide) (by decide) he (by rfl)) (wI_mono (hi σ H g sl) fun J H1 ⟨g1, x1, Y⟩ L0 hL => ?_)
  have g0 : GoodS X.K T (upd H1 L0 (SetTO X.prog X.w L0 [])) S1 := g1.g.new1 hL
  have x0 : Ext (mm S1) (mm S1) H1 (upd H1 L0 (SetTO X.prog X.w L0 [])) := Ext.new1 hL
  refine ⟨fun i m H' => m = xs.length - i ∧ i ≤ xs.length ∧ ∃ L : List (Addr × List Int), H' L0 = some (SetTO X.prog X.w L0 L) ∧ (∀ p ∈ L, SqT X.K H' p.1 (p.2.map V.int)) ∧ (L.map (·.2)).Nodup ∧ (∀ k, k ∈ L.map (·.2) ↔ ∃ j, j < i ∧ bs j = true ∧ val j = k) ∧ L.length ≤ i ∧ Gd X.K T (B.since H1 S1) H' S1,
    ⟨_, rfl, Nat.zero_le _, [], upd_same, fun p hp => absurd hp List.not_mem_nil, List.nodup_nil, fun k => ⟨fun h => absurd h List.not_mem_nil, fun ⟨j, hj, _⟩ => absurd hj (Nat.not_lt_zero _)⟩, Nat.le_refl _, (g1.since (Ext.refl _ _)).to x0 g0⟩, ?_⟩
  rintro i m H' ⟨rfl, hil, L, hD, hall, nd, mem, hlen, g'⟩
  have slw : Slots X.K (mm S1) H' (L2.wipe σ (own.map (·.2))) (wipeR ρ (own.map (·.2))) := ((sl.ext x1).ext g'.r.2).wipe _
  obtain ⟨y1, y2⟩ := Y i H' _ O.hV g'.r.2 g'.g
  -- the set stays through what is worked out meanwhile
  have stay : ∀ {H2 : Hp}, Ext (mm S1) (mm S1) H' H2 → H2 L0 = some (SetTO X.prog X.w L0 L) ∧ ∀ p ∈ L, SqT X.K H2 p.1 (p.2.map V.int) := fun {H2} e => ⟨e.kp (g'.g.notE hD) hD (fun _ z => by cases z), fun p hp => SqT.to (hall p hp) g'.g e⟩
  by_cases hlt : i < xs.length
  · obtain ⟨go, st⟩ := y1 hlt
    refine .inr ⟨go, fun H' => ∃ L : List (Addr × List Int), H' L0 = some (SetTO X.prog X.w L0 L) ∧ (∀ p ∈ L, SqT X.K H' p.1 (p.2.map V.int)) ∧ (L.map (·.2)).Nodup ∧ (∀ k, k ∈ L.map (·.2) ↔ ∃ j, j < i + 1 ∧ bs j = true ∧ val j = k) ∧ L.length ≤ i + 1 ∧ Gd X.K T (B.since H1 S1) H' S1, fun H2 q => ⟨xs.length - (i + 1), by omega, rfl, hlt, q⟩, fun x H3 hy s H C cl fp => ?_⟩
    obtain ⟨x', hd', r, x3, g3⟩ := st x H3 hy
    have g3' := g'.to x3 g3
    obtain ⟨ρ1, ix, hix, hg0, ht0, he0⟩ := O.hs i x' hd'
    refine wG.mk fun pins st u I0 rv => thn ((hg0 s H C cl fp _ _ H3 x (slw.ext x3) r).run pins st u I0 rv) fun _ s' ⟨σ4, H4, I4, e4, s4, hj⟩ => ⟨σ4, H4, I4, ?_⟩
    subst e4
    have hl4 : σ4.length = (L2.wipe σ (own.map (·.2))).length := by rw [I4.len, I0.len]
    refine ⟨wipe_eq (by rw [hl4, wipe_length]) hj hix, fun s H C cl fp => ?_⟩
    obtain ⟨t, pt, q⟩ := ht0 s H C cl fp _ (B.since_le H1 S1) σ4 _ g3' s4
    refine ⟨fun σ H Q => ∃ Q', t σ H Q' ∧ ∀ b H', Q' b H' → Q b H', ⟨fun pins s σ H Q I ⟨Q', q, m⟩ => thn (pt.run pins s σ H Q' I q) fun _ _ ⟨H', I', q'⟩ => ⟨H', I', m _ _ q'⟩⟩, _, q, fun b H5 ⟨e5, g5, x5⟩ => ?_⟩
    subst e5
    have up : ∀ k, (∃ j, j < i + 1 ∧ bs j = true ∧ val j = k) ↔ (∃ j, j < i ∧ bs j = true ∧ val j = k) ∨ (bs i = true ∧ val i = k) := fun k => by
      constructor
      · rintro ⟨j, h1, h2, h3⟩
        rcases Nat.lt_or_ge j i with z | z
        · exact .inl ⟨j, z, h2, h3⟩
        · have : j = i := by omega
          subst this; exact .inr ⟨h2, h3⟩
      · rintro (⟨j, h1, h2, h3⟩ | ⟨h2, h3⟩)
        · exact ⟨j, by omega, h2, h3⟩
        · exact ⟨i, by omega, h2, h3⟩
    cases hbi : bs i with
    | false =>
      rw [if_neg Bool.false_ne_true]
      obtain ⟨k1, k2⟩ := stay (x3.trans x5)
      refine ⟨L, k1, k2, nd, fun k => ?_, by omega, g5⟩
      rw [up k, mem k, hbi]
      simp
    | true =>
      rw [if_pos rfl]
      intro s H C cl fp
      refine wE_mono (he0 hbi s H C cl fp _ (B.since_le H1 S1) σ4 H5 g5 (s4.ext x5)) fun v H6 ⟨d6, S6, ⟨e6, e7⟩, r6, g6, x6⟩ => ?_
      subst e6; subst e7
      obtain ⟨a6, ws, e8, h8, rs⟩ := r6.tupT
      have e9 := rs.ints
      subst e9; subst e8
      obtain ⟨k1, k2⟩ := stay ((x3.trans x5).trans x6)
      refine ⟨a6, val i, L, rfl, h8, k1, k2, by omega, fun L' c1 c2 => ?_⟩
      have n1 : H1 L0 = none := hL
      have xu : Ext (mm S6) (mm S6) H1 (upd H6 L0 (SetTO X.prog X.w L0 L')) := ⟨fun a o ha h => by
        have na : a ≠ L0 := fun z => by rw [z, n1] at h; cases h
        rw [upd_ne na]
        exact g6.r.2.keep a o ha h, fun a h n => absurd h n⟩
      have gu : GoodS X.K T (upd H6 L0 (SetTO X.prog X.w L0 L')) S6 := g6.g.updE k1
      have mem' : ∀ p ∈ L', p ∈ L ∨ p = (a6, val i) := fun p hp => by
        rcases Classical.em (val i ∈ L.map (·.2)) with z | z
        · rw [c1 z] at hp; exact .inl hp
        · rcases List.mem_cons.mp ((c2 z).mem_iff.mp hp) with q | q
          · exact .inr q
          · exact .inl q
      refine ⟨L', upd_same, fun p hp => ?_, ?_, fun k => ?_, ?_, gu, B.mono _ _ _ _ g1.r xu, xu⟩
      · rcases mem' p hp with q | q
        · exact SqT.updE (k2 p q) k1
        · rw [q]; exact SqT.updE h8 k1
      · rcases Classical.em (val i ∈ L.map (·.2)) with z | z
        · rw [c1 z]; exact nd
        · rw [((c2 z).map (·.2)).nodup_iff]
          exact List.nodup_cons.mpr ⟨z, nd⟩
      · rw [up k, ← mem k, hbi]
        rcases Classical.em (val i ∈ L.map (·.2)) with z | z
        · rw [c1 z]
          constructor
          · exact .inl
          · rintro (q | ⟨_, q⟩)
            · exact q
            · rw [← q]; exact z
        · rw [((c2 z).map (·.2)).mem_iff]
          show k ∈ val i :: L.map (·.2) ↔ _
          rw [List.mem_cons]
          constructor
          · rintro (q | q)
            · exact .inr ⟨rfl, q.symm⟩
            · exact .inl q
          · rintro (q | ⟨_, q⟩)
            · exact .inr q
            · exact .inl q.symm
      · rcases Classical.em (val i ∈ L.map (·.2)) with z | z
        · rw [c1 z]; omega
        · rw [(c2 z).length_eq]; show L.length + 1 ≤ _; omega
  · have e : i = xs.length := by omega
    subst e
    refine .inl ⟨y2 rfl, L0, L, d, Z, rfl, hD, hall, hd, fun p hp => ?_, fun L' l pm nd' h64' pw hl => ?_⟩
    · obtain ⟨j, h1, h2, h3⟩ := (mem p.2).mp (List.mem_map.mpr ⟨p, hp, rfl⟩)
      rw [← h3]; exact hb j h1 h2
    · have rs : ∀ L' : List (Addr × List Int), (∀ p ∈ L', p ∈ L) → Reps X.K (mm S1) H' (L'.map fun q => V.ref q.1) ((L'.map (·.2)).map fun k => D.tup (k.map D.int)) := fun L' => by
        induction L' with
        | nil => intro _; exact .nil
        | cons q L' ih => intro h; exact .cons (SqT.rep (hall q (h q List.mem_cons_self)) g'.g) (ih fun p hp => h p (List.mem_cons_of_mem _ hp))
      obtain ⟨d, S'', ⟨l', e1, e2⟩, w⟩ := Pt.newL (X := X) (T := T) (B := B) (S' := S1) (rs L' fun p hp => pm.mem_iff.mp hp) (g'.le (B.since_le H1 S1)) (x1.trans g'.r.2) hl
      refine ⟨d, S'', ⟨l', L'.map (·.2), e1, e2, nd', fun k => ?_, ?_⟩, w⟩
      · rw [(pm.map (·.2)).mem_iff]; exact mem k
      · rw [List.pairwise_map]; exact pw
end
section
variable {X : Cx} {T : List Addr} {B : Bk} {e c : Expr} {sts rest : List Stmt} {ρ : Rho} {S S' : Sto} {d : D} {xs : List D} {P : DEnds} {pos pos' : Pos}
/-- an int as a test -/
theorem dt_int {i : Int} (h : DX X T B e ρ S (.int i) S') (he : ∀ whole, isTrue e X.env whole = (do let v ← whole; standAt e.pos; holding [v] (truthy v)) := by intro _; rfl) : DT X T B e ρ S (i != 0) S' := fun σ H g s =>
  wT_of (pt_truth pe_w he) (wE_mono (h σ H g s) fun v H1 ⟨d1, T1, ⟨e1, e2⟩, r1, g1, x1⟩ => by subst e1; subst e2; cases r1; exact ⟨_, rfl, rfl, g1, x1⟩)
/-- a list or tuple as a test -/
theorem dt_seq (h : DX X T B e ρ S d S') (hs : SeqD S' d xs) (he : ∀ whole, isTrue e X.env whole = (do let v ← whole; standAt e.pos; holding [v] (truthy v)) := by intro _; rfl) : DT X T B e ρ S (!xs.isEmpty) S' := fun σ H g s =>
  wT_of (pt_truth pe_w he) (wE_mono (h σ H g s) fun v H1 ⟨d1, T1, ⟨e1, e2⟩, r1, g1, x1⟩ => by
    subst e1; subst e2
    obtain ⟨q, ws, e3, e4, e5⟩ := hs.sq g1.g r1
    subst e3
    have ee : (!ws.isEmpty) = !xs.isEmpty := by cases e5 <;> rfl
    exact ⟨!xs.isEmpty, e4.elim (fun h => .inl ⟨ws, h, ee.symm⟩) fun h => .inr (.inl ⟨ws, h, ee.symm⟩), rfl, g1, x1⟩)
/-- while, the statements behind it -/
theorem qs_while (I : Nat → Rho → Sto → Prop) (m : Nat) (hp : PassesOwn (model X.prog X.w) X.A X.env X.xe) (h0 : I m ρ S)
    (hs : ∀ m ρ S, I m ρ S → ∃ k S1, DT X T B c ρ S k S1 ∧ (k = true → DSs X T B sts ρ S1 { nx := fun ρ' S' => ∃ m', m' < m ∧ I m' ρ' S', rt := P.rt, bk := fun ρ S => DSs X T B rest ρ S P, ct := fun ρ' S' => ∃ m', m' < m ∧ I m' ρ' S' }) ∧ (k = false → DSs X T B rest ρ S1 P)) : DSs X T B (.While c sts [] pos :: rest) ρ S P :=
  dss_cons (ds_while I m hp h0 hs)
theorem qs_augAdd (i : Nat) {n : Str} {u w : Int} (hN : X.N.Nodup) (h0 : ρ[i]? = some (some (.int u))) (he : DX X T B e ρ S (.int w) S') (k : DSs X T B rest (ρ.set i (some (.int (u + w)))) S' P)
    (hi : X.N[i]? = some n := by rfl) (hx : Loc X.env.scope n := by first | exact Or.inl rfl | exact Or.inr rfl) (hf : X.fn n = true ∨ X.env.scope.names.lookup n = some .local := by first | exact .inl rfl | exact .inr rfl) :
    DSs X T B (.AugAssign (.Name n pos') .Add e pos :: rest) ρ S P := dss_cons (ds_augAdd i hN h0 he k hi hx hf)
theorem qs_augAnd (i : Nat) {n : Str} {u w : Int} (hN : X.N.Nodup) (h0 : ρ[i]? = some (some (.int u))) (he : DX X T B e ρ S (.int w) S') (k : DSs X T B rest (ρ.set i (some (.int (Builtin.bitAnd u w)))) S' P)
    (hi : X.N[i]? = some n := by rfl) (hx : Loc X.env.scope n := by first | exact Or.inl rfl | exact Or.inr rfl) (hf : X.fn n = true ∨ X.env.scope.names.lookup n = some .local := by first | exact .inl rfl | exact .inr rfl) :
    DSs X T B (.AugAssign (.Name n pos') .BitAnd e pos :: rest) ρ S P := dss_cons (ds_augI (f := Builtin.bitAnd) i hN h0 he iop_and k hi hx hf)
theorem qs_augMul (i : Nat) {n : Str} {u w : Int} (hN : X.N.Nodup) (h0 : ρ[i]? = some (some (.int u))) (he : DX X T B e ρ S (.int w) S') (hC : CMul u w) (k : DSs X T B rest (ρ.set i (some (.int (u * w)))) S' P)
    (hi : X.N[i]? = some n := by rfl) (hx : Loc X.env.scope n := by first | exact Or.inl rfl | exact Or.inr rfl) (hf : X.fn n = true ∨ X.env.scope.names.lookup n = some .local := by first | exact .inl rfl | exact .inr rfl) :
    DSs X T B (.AugAssign (.Name n pos') .Mult e pos :: rest) ρ S P := dss_cons (ds_augIC (f := fun i j => i * j) i hN h0 he iop_mul hC k hi hx hf)
end
end DL
set_option Elab.async false
set_option linter.all false
set_option maxRecDepth 100000
set_option maxHeartbeats 1000000
namespace SB
open PySem PySem.Spec PyProof.Rows L2 DL
/-! ### told things -/
def mD (k : List Int) : D := .tup (k.map D.int)
/-- the masks of the told things with this bit, each once, ascending -/
structure TellOk (fs : List (List Str)) (rs : List (List Str × Int)) (bit : Int) (ks : List (List Int)) : Prop where
  nd : ks.Nodup
  mem : ∀ k, k ∈ ks ↔ ∃ r ∈ rs, r.2 = bit ∧ masksOf fs r.1 = k
  asc : ks.Pairwise fun k k' => TS.code 64 k ≤ TS.code 64 k'
theorem maskI_in {us : List Str} {t : Str} (h : t ∈ us) (h6 : us.length ≤ 6) : 0 ≤ maskI us t ∧ maskI us t < 64 := by
  have il := List.idxOf_lt_length_of_mem (srt_mem.mpr h)
  rw [srt_length] at il
  unfold maskI
  have all : ∀ n < 6, (0 : Int) ≤ 1 * 2 ^ ((n : Nat) : Int).toNat ∧ (1 : Int) * 2 ^ ((n : Nat) : Int).toNat < 64 := by decide
  exact all _ (by omega)
theorem masksOf_in {fs : List (List Str)} {ts : List Str} (ok : ThingOk fs ts) (hf6 : ∀ us ∈ fs, us.length ≤ 6) : (masksOf fs ts).length = fs.length ∧ TS.Bd 64 (masksOf fs ts) := by
  refine ⟨masksOf_len ok.len, fun m hm => ?_⟩
  obtain ⟨i, hi⟩ := List.getElem?_of_mem hm
  have hl := masksOf_len ok.len
  have hlt : i < fs.length := by rw [← hl]; exact (List.getElem?_eq_some_iff.mp hi).1
  have h1 : fs[i]? = some fs[i] := List.getElem?_eq_getElem hlt
  have h2 : ts[i]? = some (ts[i]'(by rw [ok.len]; exact hlt)) := List.getElem?_eq_getElem _
  have := masksOf_get h1 h2
  rw [hi] at this
  cases this
  exact maskI_in (ok.mem i _ _ h1 h2) (hf6 _ (List.getElem_mem hlt))
section
variable {P : Program} {w : World} {K : PySem.W.Frag} {mg : Str → Option Value} {base : Heap} {T : List Addr}
abbrev s_check_told : Stmt := top 38
theorem sc_check_told : FnScope ["space", "told", "row", "ones", "thing", "bit", "zeros"] ["space", "told"] (defScope s_check_told) := ⟨rfl, rfl, rfl, by decide +kernel, rfl, by decide +kernel, by decide +kernel⟩
-- space=0 told=1 row=2 ones=3 thing=4 bit=5 zeros=6
def F_checkTold (C : Addr) : FT := fun ds S P _ => ∃ (d : D) (fs : List (List Str)) (rs : List (List Str × Int)), ds = [spaceD C fs, d] ∧ SqD d (rs.map rowD) ∧ rs.length ≤ 12 ∧ (∀ r ∈ rs, RowOk fs r) ∧ 1 ≤ fs.length ∧ fs.length ≤ 6 ∧ (∀ us ∈ fs, us.length ≤ 6) ∧
  ∀ os zs, TellOk fs rs 1 os → TellOk fs rs 0 zs → P (.tup [.lst (os.map mD), .lst (zs.map mD)]) S
theorem fd_checkTold {f C : Addr} {fd : FuncData} (F : Fun K "check_told" "check_told" s_check_told f fd) (b : BI mg) (hM : ∃ t, mg "MOST_TOLD" = some (.int 12 t)) (sc : SpC K C) (hrow : FN P w K mg base T CX0 1 "is_row_handed" ["value"] F_rowH) (hpair : FN P w K mg base T CX0 1 "is_pair" ["value"] F_pair) (hbt : FN P w K mg base T CX0 2 "is_whole_between" ["value", "least", "greatest"] F_between)
    (ht : FM P w K mg base T CX0 2 C "is_thing" ["self", "value"] (F_isThing C)) (hmk : FM P w K mg base T CX0 1 C "masks_of" ["self", "thing"] (F_masks C)) (hb : Binds K fd ["space", "told"] []) : FD P w K mg base T CX0 3 f fd ["space", "told"] (F_checkTold C) := by
  refine fd_d F sc_check_told hb (fun ds S P PX h => by obtain ⟨_, _, _, rfl, _⟩ := h; rfl) (fun cdv A outer st H E B ds S Q PX hr hF => ?_)
  obtain ⟨d, fs, rs, rfl, hd, h12, hrs, f1, f6, hf6, hQ⟩ := hF
  have lenR : (rs.map rowD).length = rs.length := List.length_map _
  refine qs_if (k := false) (DW.dt (dw_orF (DT.cast (dt_not (dt_of (de_call hrow (hr.mono (by omega)) rfl pass0 (da_cons (dx_var 1 rfl) da_nil) ⟨d, _, rfl, hd, rfl, rfl⟩))) rfl) (dw_or1 (DT.cast (dt_gt (dx_lenQ b.len rfl (dx_var 1 rfl) hd) (dx_gI rfl hM)) ?_)))) (fun e => nomatch e) (fun _ => qs_nil ?_)
  · rw [lenR]; simp; omega
  refine qs_for (V := fun _ => True) (xs := rs.map rowD) (fun i ρ S' => ∃ v, S' = S ∧ ρ = [some (spaceD C fs), some d, v, none, none, none, none]) PassesOwn.never rfl (di_sq (dx_var 1 rfl) hd) ⟨_, rfl, rfl⟩ ?_ ?_
  · rintro B' hB i x ρ' S' hx ⟨v, rfl, rfl⟩
    rw [List.getElem?_map] at hx
    obtain ⟨r, hr', rfl⟩ := Option.map_eq_some_iff.mp hx
    have rok := hrs r (List.mem_of_getElem? hr')
    refine ⟨_, _, dg_name 2 sc_check_told.nd, ?_⟩
    refine qs_if (k := false) (DW.dt (dw_orF (DT.cast (dt_not (dt_of (de_call hpair (hr.mono (by omega)) rfl pass0 (da_cons (dx_var 2 rfl) da_nil) ⟨_, _, rfl, rfl, rfl⟩))) rfl) (dw_orF (DT.cast (dt_not (dt_of (de_meth ht (hr.mono (by omega)) sc.cl pass0 (dx_var 0 rfl) Vw.rfl' rfl (da_cons (dx_ixT (dx_var 2 rfl) dx_int rfl) da_nil) ⟨fs, r.1, rfl, rok.th, rfl, rfl⟩))) rfl) (dw_or1 (DT.cast (dt_not (dt_of (de_call hbt (hr.mono (by omega)) rfl pass0 (da_cons (dx_ixT (dx_var 2 rfl) dx_int rfl) (da_cons dx_int (da_cons dx_int da_nil))) ⟨r.2, 0, 1, rfl, rfl, rfl⟩))) ?_))))) (fun e => nomatch e) (fun _ => qs_nil (qs_nil ⟨_, rfl, rfl⟩))
    rcases rok.bit with z | z <;> rw [z] <;> rfl
  rintro ρ' S' ⟨v, rfl, rfl⟩
  have step : ∀ (i : Nat) x, (rs.map rowD)[i]? = some x → ∃ r, rs[i]? = some r ∧ x = rowD r := fun i x hx => by
    rw [List.getElem?_map] at hx
    obtain ⟨r, h1, h2⟩ := Option.map_eq_some_iff.mp hx
    exact ⟨r, h1, h2.symm⟩
  have got : ∀ i r, rs[i]? = some r → rs.getD i ([], 0) = r := fun i r h => by rw [List.getD_eq_getElem?_getD, h]; rfl
  have rom : A.units + 3 + 64 < cLine := by have := hr.un; show A.units + 3 + 64 < cLine; exact Nat.lt_of_le_of_lt (by show A.units + 3 + 64 ≤ (A.units + 3) + 16 * 2 + 200; omega) this
  have tell : ∀ (bit : Int) (ks : List (List Int)), ks.Nodup → (∀ k, k ∈ ks ↔ ∃ i, i < (rs.map rowD).length ∧ decide ((rs.getD i ([], 0)).2 = bit) = true ∧ masksOf fs (rs.getD i ([], 0)).1 = k) → (ks.Pairwise fun k k' => TS.code 64 k ≤ TS.code 64 k') → TellOk fs rs bit ks := fun bit ks h1 h2 h3 => by
    refine ⟨h1, fun k => ?_, h3⟩
    rw [h2 k]
    constructor
    · rintro ⟨i, q1, q2, q3⟩
      rw [lenR] at q1
      have e := got i _ (List.getElem?_eq_getElem q1)
      rw [e] at q2 q3
      exact ⟨rs[i], List.getElem_mem q1, of_decide_eq_true q2, q3⟩
    · rintro ⟨r, hr, q2, q3⟩
      obtain ⟨i, hi⟩ := List.getElem?_of_mem hr
      have e := got i r hi
      exact ⟨i, by rw [lenR]; exact (List.getElem?_eq_some_iff.mp hi).1, by rw [e]; exact decide_eq_true q2, by rw [e]; exact q3⟩
  have bnd : ∀ (bit : Int) (i : Nat), i < (rs.map rowD).length → decide ((rs.getD i ([], 0)).2 = bit) = true → (masksOf fs (rs.getD i ([], 0)).1).length = fs.length ∧ TS.Bd 64 (masksOf fs (rs.getD i ([], 0)).1) := fun bit i q _ => by
    rw [lenR] at q
    rw [got i _ (List.getElem?_eq_getElem q)]
    exact masksOf_in (hrs _ (List.getElem_mem q)).th hf6
  refine qs_asgE 3 sc_check_told.nd (de_sortSet (own := [("thing", 4), ("bit", 5)]) (xs := rs.map rowD) (Vw0 := fun _ => True) (bs := fun i => decide ((rs.getD i ([], 0)).2 = 1)) (val := fun i => masksOf fs (rs.getD i ([], 0)).1) (d := fs.length) (Z := 64) rfl sc_check_told.nd rom b.sorted rfl (di_sq (dx_var 1 rfl) hd) (blkOk_by (own := [("thing", 4), ("bit", 5)]) (N := ["space", "told", "row", "ones", "thing", "bit", "zeros"]) (sc := defScope s_check_told) (by decide +kernel)) ⟨fun i x hx => ?_, trivial⟩ (by rw [lenR]; omega) f1 (bnd 1)) ?_
  · obtain ⟨r, h1, rfl⟩ := step i x hx
    have e := got i r h1
    have rok := hrs r (List.mem_of_getElem? h1)
    refine ⟨_, _, ?_, fun s H C cl fp => dg_pair 4 5 sc_check_told.nd rfl, fun s H C cl fp B' hB' => dts_one (DT.cast (dt_eqI (dx_var 5 rfl) dx_int) (by rw [e])), fun _ s H C' cl fp B' hB' => ?_⟩
    · intro j hj; simpa using hj
    · rw [e]
      exact de_meth hmk (hr.mono (by omega)) sc.cl pass0 (dx_var 0 rfl) Vw.rfl' rfl (da_cons (dx_var 4 rfl) da_nil) ⟨fs, r.1, rfl, rok.th, f6, hf6, rfl, rfl⟩
  rintro d1 S1 ⟨l1, os, rfl, rfl, o1, o2, o3⟩
  refine dss_cv (Cv.froz (i := 3) rfl) ?_
  refine qs_asgE 6 sc_check_told.nd (de_sortSet (own := [("thing", 4), ("bit", 5)]) (xs := rs.map rowD) (Vw0 := fun _ => True) (bs := fun i => decide ((rs.getD i ([], 0)).2 = 0)) (val := fun i => masksOf fs (rs.getD i ([], 0)).1) (d := fs.length) (Z := 64) rfl sc_check_told.nd rom b.sorted rfl (di_sq (dx_var 1 rfl) hd) (blkOk_by (own := [("thing", 4), ("bit", 5)]) (N := ["space", "told", "row", "ones", "thing", "bit", "zeros"]) (sc := defScope s_check_told) (by decide +kernel)) ⟨fun i x hx => ?_, trivial⟩ (by rw [lenR]; omega) f1 (bnd 0)) ?_
  · obtain ⟨r, h1, rfl⟩ := step i x hx
    have e := got i r h1
    have rok := hrs r (List.mem_of_getElem? h1)
    refine ⟨_, _, ?_, fun s H C cl fp => dg_pair 4 5 sc_check_told.nd rfl, fun s H C cl fp B' hB' => dts_one (DT.cast (dt_eqI (dx_var 5 rfl) dx_int) (by rw [e])), fun _ s H C' cl fp B' hB' => ?_⟩
    · intro j hj; simpa using hj
    · rw [e]
      exact de_meth hmk (hr.mono (by omega)) sc.cl pass0 (dx_var 0 rfl) Vw.rfl' rfl (da_cons (dx_var 4 rfl) da_nil) ⟨fs, r.1, rfl, rok.th, f6, hf6, rfl, rfl⟩
  rintro d2 S2 ⟨l2, zs, rfl, rfl, z1, z2, z3⟩
  refine dss_cv (Cv.froz (i := 6) rfl) ?_
  exact qs_ret (dx_tup (da_cons (dx_var 3 rfl) (da_cons (dx_var 6 rfl) da_nil)) (Nat.le_of_ble_eq_true rfl)) ⟨_, _, Fz.refl, hQ os zs (tell 1 os o1 o2 o3) (tell 0 zs z1 z2 z3)⟩
end
end SB
set_option Elab.async false
set_option linter.all false
set_option maxRecDepth 100000
set_option maxHeartbeats 1000000
namespace SB
open PySem PySem.Spec PyProof.Rows L2 DL
/-! ### boxes -/
def mP (k : List Int) : D := .tupP (k.map D.int)
def joinI : List Int → List Int → List Int
  | a :: k, b :: l => Builtin.bitOr a b :: joinI k l
  | _, _ => []
theorem joinI_len : ∀ {k l : List Int}, k.length = l.length → (joinI k l).length = k.length
  | [], [], _ => rfl
  | [], _ :: _, h => by simp at h
  | _ :: _, [], h => by simp at h
  | a :: k, b :: l, h => by
    show (joinI k l).length + 1 = k.length + 1
    rw [joinI_len (by simpa using h)]
theorem joinI_get : ∀ {k l : List Int} {i : Nat} {a b : Int}, k[i]? = some a → l[i]? = some b → (joinI k l)[i]? = some (Builtin.bitOr a b)
  | [], _, _, _, _, h, _ => by simp at h
  | _ :: _, [], _, _, _, _, h => by simp at h
  | x :: k, y :: l, 0, a, b, h, h2 => by simp at h h2; subst h; subst h2; rfl
  | x :: k, y :: l, i + 1, a, b, h, h2 => by
    show (joinI k l)[i]? = _
    exact joinI_get (by simpa using h) (by simpa using h2)
def boxOf (ks : List (List Int)) (st : List Int) : List Int := ks.foldl joinI st
theorem boxOf_len {n : Nat} : ∀ {ks : List (List Int)} {st : List Int}, (∀ k ∈ ks, k.length = n) → st.length = n → (boxOf ks st).length = n
  | [], _, _, h => h
  | k :: ks, st, hk, h => boxOf_len (ks := ks) (st := joinI st k) (fun x hx => hk x (List.mem_cons_of_mem _ hx)) ((joinI_len (by rw [h, hk k List.mem_cons_self])).trans h)
section
variable {X : Cx} {T : List Addr} {B : Bk} {e : Expr} {ρ : Rho} {S S' : Sto} {d : D} {xs : List D}
/-- a tuple, told plainly or not -/
def TupV (d : D) (xs : List D) : Prop := d = .tup xs ∨ d = .tupP xs
theorem TupV.dx (h : TupV d xs) (k : DX X T B e ρ S d S') : DX X T B e ρ S (.tup xs) S' := by
  rcases h with h | h
  · subst h; exact k
  · subst h; exact DX.unP k
end
section
variable {P : Program} {w : World} {K : PySem.W.Frag} {mg : Str → Option Value} {base : Heap} {T : List Addr}
abbrev s_box_joined : Stmt := top 3
theorem sc_box_joined : FnScope ["one", "other", "mask", "more"] ["one", "other"] (defScope s_box_joined) := ⟨rfl, rfl, rfl, by decide +kernel, rfl, by decide +kernel, by decide +kernel⟩
-- one=0 other=1 mask=2 more=3
def F_joined : FT := fun ds S P _ => ∃ (x y : D) (a b : List Int), ds = [x, y] ∧ TupV x (a.map D.int) ∧ TupV y (b.map D.int) ∧ a.length = b.length ∧ a.length ≤ 100 ∧ P (mP (joinI a b)) S
theorem fd_joined {f : Addr} {fd : FuncData} (F : Fun K "box_joined" "box_joined" s_box_joined f fd) (b : BI mg) (hb : Binds K fd ["one", "other"] []) : FD P w K mg base T CX0 1 f fd ["one", "other"] F_joined := by
  refine fd_d F sc_box_joined hb (fun ds S P PX h => by obtain ⟨_, _, _, _, rfl, _⟩ := h; rfl) (fun cdv A outer st H E B ds S Q PX hr hF => ?_)
  obtain ⟨x, y, k, l, rfl, hx, hy, hl, h1, hQ⟩ := hF
  have lenZ : (zipD (k.map D.int) (l.map D.int)).length = k.length := by rw [zipD_length, List.length_map, List.length_map]; omega
  refine qs_ret (dx_tupleP b.tuple rfl (DN.dx (dn_lcmap (xs := zipD (k.map D.int) (l.map D.int)) (ys := (joinI k l).map D.int) (V := fun _ => True) (own := [("mask", 2), ("more", 3)]) rfl sc_box_joined.nd (di_zip b.zip rfl (hx.dx (dx_var 0 rfl)) (hy.dx (dx_var 1 rfl))) (blkOk_by (own := [("mask", 2), ("more", 3)]) (N := ["one", "other", "mask", "more"]) (sc := defScope s_box_joined) (by decide +kernel)) (by rw [lenZ, List.length_map, joinI_len hl]) (by omega) (fun _ _ => trivial) ?_)) Vw.rfl') ⟨_, _, Fz.refl, hQ⟩
  intro i u v hu hv
  obtain ⟨u1, u2, h2, h3, rfl⟩ := zipD_of hu
  rw [List.getElem?_map] at h2 h3
  obtain ⟨a1, e1, rfl⟩ := Option.map_eq_some_iff.mp h2
  obtain ⟨a2, e2, rfl⟩ := Option.map_eq_some_iff.mp h3
  rw [List.getElem?_map, joinI_get e1 e2] at hv
  cases hv
  refine ⟨_, _, ?_, fun s H C cl fp => dg_pair 2 3 sc_box_joined.nd rfl, fun s H C cl fp B' L acc hB' => (dx_bor (dx_var 2 rfl) (dx_var 3 rfl))⟩
  intro j hj; simpa using hj
abbrev s_box_of : Stmt := top 5
theorem sc_box_of : FnScope ["things", "start", "box", "thing"] ["things", "start"] (defScope s_box_of) := ⟨rfl, rfl, rfl, by decide +kernel, rfl, by decide +kernel, by decide +kernel⟩
-- things=0 start=1 box=2 thing=3
def F_boxOf : FT := fun ds S P _ => ∃ (ks : List (List Int)) (st : List Int) (n : Nat), ds = [.lst (ks.map mD), mP st] ∧ (∀ k ∈ ks, k.length = n) ∧ st.length = n ∧ n ≤ 100 ∧ P (mP (boxOf ks st)) S
theorem fd_boxOf {f : Addr} {fd : FuncData} (F : Fun K "box_of" "box_of" s_box_of f fd) (hj : FN P w K mg base T CX0 1 "box_joined" ["one", "other"] F_joined) (hb : Binds K fd ["things", "start"] []) : FD P w K mg base T CX0 2 f fd ["things", "start"] F_boxOf := by
  refine fd_d F sc_box_of hb (fun ds S P PX h => by obtain ⟨_, _, _, rfl, _⟩ := h; rfl) (fun cdv A outer st H E B ds S Q PX hr hF => ?_)
  obtain ⟨ks, k0, n, rfl, hk, h0, hn, hQ⟩ := hF
  refine qs_asg 2 sc_box_of.nd (dx_var 1 rfl) ?_
  refine qs_for (V := fun _ => True) (xs := ks.map mD) (fun i ρ S' => ∃ v, S' = S ∧ ρ = [some (.lst (ks.map mD)), some (mP k0), some (mP (boxOf (ks.take i) k0)), v]) PassesOwn.never rfl (di_lst (dx_var 0 rfl)) ⟨_, rfl, rfl⟩ ?_ ?_
  · rintro B' hB i x ρ' S' hx ⟨v, rfl, rfl⟩
    rw [List.getElem?_map] at hx
    obtain ⟨k, hk1, rfl⟩ := Option.map_eq_some_iff.mp hx
    have km := List.mem_of_getElem? hk1
    have tk : ks.take (i + 1) = ks.take i ++ [k] := by rw [List.take_succ, hk1]; rfl
    have ln : (boxOf (ks.take i) k0).length = n := boxOf_len (fun x hx => hk x (List.mem_of_mem_take hx)) h0
    refine ⟨_, _, dg_name 3 sc_box_of.nd, ?_⟩
    refine qs_asg 2 sc_box_of.nd (d := mP (joinI (boxOf (ks.take i) k0) k)) (S' := S') (de_call hj (hr.mono (by omega)) rfl pass0 (da_cons (dx_var 2 rfl) (da_cons (dx_var 3 rfl) da_nil)) ⟨_, _, _, k, rfl, .inr rfl, .inl rfl, by rw [ln, hk k km], by omega, rfl, rfl⟩) (qs_nil ⟨some (mD k), rfl, ?_⟩)
    rw [tk]
    unfold boxOf
    rw [List.foldl_append]
    rfl
  · rintro ρ' S' ⟨v, rfl, rfl⟩
    rw [List.length_map, List.take_length]
    exact qs_ret (dx_var 2 rfl) ⟨_, _, Fz.refl, hQ⟩
end
/-! ### how many boxes hold a box -/
/-- how many bits are set, of a number below 64 -/
def bc (i : Int) : Int := ((List.range 6).filter fun k => i.toNat.testBit k).length
theorem bc_zero : bc 0 = 0 := by decide
theorem bc_step {m : Int} (h0 : 0 < m) (h1 : m < 64) : 0 ≤ Builtin.bitAnd m (m - 1) ∧ Builtin.bitAnd m (m - 1) < m ∧ bc (Builtin.bitAnd m (m - 1)) + 1 = bc m := by
  have all : ∀ n : Nat, n < 64 → 0 < n → 0 ≤ Builtin.bitAnd (n : Int) ((n : Int) - 1) ∧ Builtin.bitAnd (n : Int) ((n : Int) - 1) < (n : Int) ∧ bc (Builtin.bitAnd (n : Int) ((n : Int) - 1)) + 1 = bc (n : Int) := by decide +kernel
  have := all m.toNat (by omega) (by omega)
  rwa [show ((m.toNat : Nat) : Int) = m by omega] at this
def waysI (w m : Int) : Int := if m = 0 then w else 1 * 2 ^ (bc w - bc m).toNat
theorem bc_le {n : Nat} {m : Int} (hn : n ≤ 6) (h0 : 0 ≤ m) (h1 : m < 2 ^ n) : bc m ≤ bc (1 * 2 ^ n - 1) ∧ 0 ≤ bc m ∧ bc (1 * 2 ^ n - 1) ≤ 6 ∧ (1 : Int) * 2 ^ n - 1 < 64 ∧ (0 : Int) ≤ 1 * 2 ^ n - 1 := by
  have all : ∀ n : Fin 7, ∀ m : Fin 64, m.val < 2 ^ n.val → (bc (m.val : Int) ≤ bc (1 * 2 ^ n.val - 1) ∧ 0 ≤ bc (m.val : Int) ∧ bc (1 * 2 ^ n.val - 1) ≤ 6 ∧ (1 : Int) * 2 ^ n.val - 1 < 64 ∧ (0 : Int) ≤ 1 * 2 ^ n.val - 1) := by decide +kernel
  have p : (2 : Int) ^ n ≤ 64 := by
    have : ∀ n < 7, (2 : Int) ^ n ≤ 64 := by decide
    exact this n (by omega)
  have h2 : m.toNat < 2 ^ n := by
    have e : ((2 ^ n : Nat) : Int) = (2 : Int) ^ n := by simp
    omega
  have := all ⟨n, by omega⟩ ⟨m.toNat, by omega⟩ h2
  dsimp only at this
  rwa [show ((m.toNat : Nat) : Int) = m by omega] at this
/-- a box of the fields, by masks -/
structure MaskOk (fs : List (List Str)) (k : List Int) : Prop where
  len : k.length = fs.length
  mem : ∀ (i : Nat) us m, fs[i]? = some us → k[i]? = some m → 0 ≤ m ∧ m < 2 ^ us.length
def waysL : List (List Str) → List Int → List Int
  | us :: fs, m :: k => waysI (wholeI us) m :: waysL fs k
  | _, _ => []
def prodI (l : List Int) : Int := l.foldl (· * ·) 1
def boxWays (fs : List (List Str)) (k : List Int) : Int := prodI (waysL fs k)
theorem waysL_get : ∀ {fs : List (List Str)} {k : List Int} {i : Nat} {us : List Str} {m : Int}, fs[i]? = some us → k[i]? = some m → (waysL fs k)[i]? = some (waysI (wholeI us) m)
  | [], _, _, _, _, h, _ => by simp at h
  | _ :: _, [], _, _, _, _, h => by simp at h
  | a :: fs, b :: k, 0, us, m, h, h2 => by simp at h h2; subst h; subst h2; rfl
  | a :: fs, b :: k, i + 1, us, m, h, h2 => by
    show (waysL fs k)[i]? = _
    exact waysL_get (by simpa using h) (by simpa using h2)
theorem waysL_len : ∀ {fs : List (List Str)} {k : List Int}, k.length = fs.length → (waysL fs k).length = fs.length
  | [], [], _ => rfl
  | [], _ :: _, h => by simp at h
  | _ :: _, [], h => by simp at h
  | a :: fs, b :: k, h => by
    show (waysL fs k).length + 1 = fs.length + 1
    rw [waysL_len (by simpa using h)]
end SB
set_option Elab.async false
set_option linter.all false
set_option maxRecDepth 100000
set_option maxHeartbeats 4000000
/-! d.items() of a dict whose keys are tuples -/
namespace IT
open PySem PySem.Spec PyProof.Rows L2 PySem.W
section
variable {X : Cx} {pins : List (Addr × Obj)} {σ : L2.St} {H : Hp} {s : Shared} {d : Addr} {o : Obj}
/-- what stands in a dict of tuple keys that is locked -/
theorem raw_of {kvs : List (List Key × V)} (I : Inv X pins σ H s) (h : H d = some (.frz o (.dT kvs))) : (d == sysModules) = false ∧ s.heap.get? d = some o ∧ o.ExactDict ∧ ∃ (es : Array DictEntry) (ep : Nat), o.data = .dict es ep ∧ es.size = kvs.length ∧ kvs.length ≤ sizeLine ∧
    ∀ (i : Nat) (k : List Key) (v : V), kvs[i]? = some (k, v) → ∃ (hi : i < es.size) (q : Addr), es[i].key = .ref q ∧ H q = some (.tup (k.map kV)) ∧ RelV v es[i].val := by
  obtain ⟨hd, z, hs, xs, pr, o', es, ep, ho, hx, hdt, he, _⟩ := I.hok d _ h
  rw [hd] at ho
  cases ho
  have l1 : es.size = xs.length := size_of_entries he
  have l2 : kvs.length = xs.length := Paired.length pr
  refine ⟨hs, hd, hx, es, ep, hdt, by omega, z, fun i k v e => ?_⟩
  obtain ⟨b, hb, e1, e2, e3⟩ := paired_get pr e
  have hi : i < es.size := by rw [l1]; exact (List.getElem?_eq_some_iff.mp hb).1
  have hen : es[i] = entryOfKey (tupleKind (mixKind X.prog X.w)) b := by
    have q : es.toList[i]? = some (entryOfKey (tupleKind (mixKind X.prog X.w)) b) := by rw [he, List.getElem?_map, hb]; rfl
    rw [Array.getElem?_toList, Array.getElem?_eq_getElem hi] at q
    exact Option.some.inj q
  refine ⟨hi, b.2.1, by rw [hen]; rfl, e2, by rw [hen]; exact e3⟩
end
/-- the pairs, each a new tuple of the key's own tuple and the value -/
def Itit (d : Addr) (o : Obj) (kvs : List (List Key × V)) : It :=
  ⟨fun i H => H d = some (.frz o (.dT kvs)) ∧ i < kvs.length, fun i H x H' => ∃ T q k v, kvs[i]? = some (k, v) ∧ H q = some (.tup (k.map kV)) ∧ x = .ref T ∧ H T = none ∧ H' = upd H T (.tup [.ref q, v]), fun i H => H d = some (.frz o (.dT kvs)) ∧ kvs.length ≤ i⟩
section
variable {P : Program} {w : World} {K : PySem.W.Frag} {d : Addr} {o : Obj} {es : Array DictEntry} {ep : Nat}
theorem turn_itemsT {kvs : List (List Key × V)} {elts : List Expr} {kk : Nat} {tpos : Pos} (it : Addr) (hod : o.data = .dict es ep) :
    Turn P w K (.Tuple elts kk tpos) (Itit d o kvs) [it] it (fun i h => ∃ ok ov, IsItemIter h it d i kvs.length ep ok ov) where
  mem := by simp
  obj := fun i h st b hb => by
    have e : b = it := by simpa using hb
    subst e
    obtain ⟨ok, ov, e⟩ := st
    exact ⟨_, e, fun v z => nomatch z⟩
  keep := fun i h h' st k => let ⟨ok, ov, e⟩ := st; ⟨ok, ov, k it (by simp) _ e⟩
  item := by
    intro X hP hw hK hc i pins s σ H E I hf st hg
    subst hP hw hK
    obtain ⟨hd, hi⟩ := hg
    obtain ⟨hs, hgd, hx, es', ep', hdt, hsz, _, ent⟩ := raw_of I hd
    obtain ⟨rfl, rfl⟩ := dict_ep hod hdt
    obtain ⟨⟨k, v⟩, hkv⟩ : ∃ p, kvs[i]? = some p := ⟨kvs[i], List.getElem?_eq_getElem hi⟩
    obtain ⟨hie, q, hkey, hq, ru⟩ := ent i k v hkv
    obtain ⟨ok, ov, he⟩ := st
    rw [← hsz] at he
    have hlt : it < s.heap.objs.size := Heap.lt_size he
    refine wpAny_pyNext_items_item_raw he ⟨o, hgd, hx, hdt⟩ hie fun h' ho hT hz hk => ?_
    refine ⟨_, rfl, wpAny_letOwnedTupleGo_items (s := { s with heap := h' }) ho fun h'' he' sb => ?_⟩
    have hT2 : h''.get? s.heap.objs.size = some { cls := .type "tuple", data := .seq #[es'[i].key, es'[i].val] } := (sb.2 _ (Nat.ne_of_gt hlt)).trans hT
    have new : ObjOk X.prog X.w (upd H s.heap.objs.size (.tup [.ref q, v])) h'' s.heap.objs.size (.tup [.ref q, v]) :=
      ⟨by show 2 ≤ sizeLine; decide, [es'[i].key, es'[i].val], .cons hkey (.cons ru .nil), ⟨_, hT2, rfl, _, rfl⟩⟩
    have I1 : Inv X pins σ (upd H s.heap.objs.size (.tup [.ref q, v])) { s with heap := h'' } :=
      I.turnedNew (t' := s.toks) (ch := [it]) (fun b ob hb e => (sb.2 b (by simpa using hb)).trans (hk b ob (by simpa using hb) e)) hf (Nat.le_refl _) new
    refine ⟨.ref s.heap.objs.size, _, I1, rfl, ⟨_, q, k, v, hkv, hq, rfl, I.hok.fresh (Nat.le_refl _), rfl⟩, ⟨es'[i].key, es'[i].val, by rw [← hsz]; exact he'⟩, fun b hb => ?_⟩
    have e : b = it := by simpa using hb
    rw [e, upd_ne (Nat.ne_of_lt hlt)]
    exact (hf it (by simp)).1
  done := by
    intro X hP hw hK hc i pins s σ H E I hf st hg
    subst hP hw hK
    obtain ⟨hd, hi⟩ := hg
    obtain ⟨f0, f1, f2, f3, f4, f5⟩ := hf it (by simp)
    obtain ⟨hs, hgd, hx, es', ep', hdt, hsz, _, ent⟩ := raw_of I hd
    obtain ⟨rfl, rfl⟩ := dict_ep hod hdt
    obtain ⟨ok, ov, he⟩ := st
    rw [← hsz] at he
    exact wpAny_pyNext_items_end_raw (I.ok.hd hc) he ⟨o, hgd, hx, hdt⟩ (by omega) fun h' eb => ⟨rfl, I.turned (t' := s.toks) (fun b ob hb e => eb b ob hb e) f0 f1 f3 f4 f5⟩
  self := fun A i s Q E st h => let ⟨_, _, e⟩ := st; PySem.W.kcp_self e h
end
def iItemsT (td : TE) : TI := fun σ H R => td σ H fun x H1 => ∃ d o kvs, x = .ref d ∧ H1 d = some (.frz o (.dT kvs)) ∧ R (Itit d o kvs) H1
theorem pi_itemsT {X : Cx} {e : Expr} {td : TE} {apos cpos : Pos} {elts : List Expr} {kk : Nat} {tpos : Pos} (he : PE X e td) (hbase : attributeBase e "items" X.env (eval e X.env) = eval e X.env := by rfl) (hline : (apos.endLine == cpos.line) = true := by rfl) :
    PI X (.Tuple elts kk tpos) (.Call (.Attribute e "items" apos) [] [] cpos) (iItemsT td) := by
  refine ⟨fun pins s σ H R I h => ?_⟩
  refine wpAny_Call_method (T := "dict") (id := "dict.items") hbase rfl hline F.plainAttrs_dict F.slot_dict_items F.type_dict_items (thn (he.run pins s σ H _ I h) fun u s1 ⟨x, H1, I1, rx, d, o, kvs, ex, hd, q⟩ => ?_)
  subst ex
  obtain rfl : u = Value.ref d := rx
  obtain ⟨hs, hgd, hx, es, ep, hdt, hsz, _, ent⟩ := raw_of I1 hd
  refine ⟨⟨o, hgd, hx.1⟩, fun a e => by cases e; exact ⟨o, hgd, hx.2.1⟩, ?_⟩
  have I2 : Inv X pins σ H1 { s1 with heap := s1.heap.push { cls := .type "dict_items", data := .fields #[.ref d] } } := I1.kept (t' := s1.toks) fun b ob q => Heap.get?_push_of_some _ q
  have raw : s1.heap.DictRaw d es ep := ⟨o, hgd, hx, hdt⟩
  have raw2 : (s1.heap.push { cls := .type "dict_items", data := .fields #[.ref d] }).DictRaw d es ep := ⟨o, Heap.get?_push_of_some _ hgd, hx, hdt⟩
  have fin : wpAny (model X.prog X.w) X.A (pyIter (.ref s1.heap.objs.size)) (PIE X pins σ (.Tuple elts kk tpos) R) X.xe { s1 with heap := s1.heap.push { cls := .type "dict_items", data := .fields #[.ref d] } } := by
    refine wpAny_pyIter_items_raw (d := d) ⟨_, Heap.get?_push_size _ rfl, rfl, rfl⟩ raw2 (pi_one (tk := s1.toks) I2 _ (turn_itemsT _ hdt) ⟨.none, .none, ?_⟩ q)
    rw [← hsz]
    exact Heap.get?_push_size _ rfl
  show wpAny _ _ (callWith cpos (.builtin "dict.items") [.ref d] [] []) _ X.xe s1
  exact method_meetsIn F.slot_dict_items F.entry_dict_items rfl (PySem.evalArgs_none ⟨rfl, ⟨o, hgd, hx.1⟩, F.args_dict_items_1 _, _, meets_dict_items_raw d hs, ⟨es, ep, raw⟩, fin⟩)
end IT
set_option Elab.async false
set_option linter.all false
set_option maxRecDepth 100000
set_option maxHeartbeats 4000000
/-! list(d.items()), whatever the keys are -/
namespace IT
open PySem PySem.Spec PyProof.Rows L2 PySem.W PyProof.V
section
variable {prog : Program} {w : World} {A : Around} {E : Value → Shared → Prop} {s : Shared} {es : Array DictEntry} {ep : Nat}
theorem raw_item {it d Z : Addr} {i : Nat} {Q : Option Value → Shared → Prop} (st : KdxSt s.heap it d Z i es.size ep) (lz : Z < s.heap.objs.size) (hm : s.heap.DictRaw d es ep) (hi : i < es.size)
    (hQ : ∀ h', KdxSt h' it d Z (i + 1) es.size ep → h'.get? s.heap.objs.size = some { cls := .type "tuple", data := .seq #[es[i].key, es[i].val] } → h'.objs.size = s.heap.objs.size + 1 → (∀ b o, b ≠ it → s.heap.get? b = some o → h'.get? b = some o) → Q (some (.ref s.heap.objs.size)) { s with heap := h' }) :
    wpAny (model prog w) A (pyNext (.ref it)) Q E s := by
  rcases st with ⟨rfl, ok, ov, q⟩ | ⟨ok, ov, a, f, oa, q, qa, n1, n2⟩
  · exact wpAny_pyNext_items_item_raw q hm hi fun h' q' ht hz hk => hQ h' (.inr ⟨_, _, _, false, _, q', ht, Nat.ne_of_gt (Heap.lt_size q), Nat.ne_of_gt lz⟩) ht hz hk
  · exact wpAny_pyNext_items_item_out_raw q qa n1 hm hi fun h' q' ht hz hk => hQ h' (.inr ⟨ok, ov, a, true, oa, q', hk a oa n1 qa, n1, n2⟩) ht hz hk
theorem raw_done {it d Z : Addr} {i : Nat} {Q : Option Value → Shared → Prop} (hh : A.handled = none) (st : KdxSt s.heap it d Z i es.size ep) (hm : s.heap.DictRaw d es ep) (hi : es.size ≤ i) (hQ : ∀ h', Heap.ExtBut it s.heap h' → Q none { s with heap := h' }) :
    wpAny (model prog w) A (pyNext (.ref it)) Q E s := by
  rcases st with ⟨rfl, ok, ov, q⟩ | ⟨ok, ov, a, f, oa, q, _, _, _⟩
  · exact wpAny_pyNext_items_end_raw hh q hm hi hQ
  · exact wpAny_pyNext_items_end_out_raw hh q hm hi hQ
/-- the pairs that were laid -/
structure RawG (es : Array DictEntry) (lo : Addr) (h : Heap) (as : List Addr) : Prop where
  rise : as.Pairwise (· < ·)
  above : ∀ a ∈ as, lo < a
  pairs : ∀ (j : Nat) (a : Addr), as[j]? = some a → ∃ hj : j < es.size, h.get? a = some { cls := .type "tuple", data := .seq #[es[j].key, es[j].val] }
theorem RawG.there {lo : Addr} {h : Heap} {as : List Addr} (g : RawG es lo h as) {a : Addr} (ha : a ∈ as) : a < h.objs.size := by
  obtain ⟨j, hj⟩ := List.mem_iff_getElem?.mp ha
  obtain ⟨_, e⟩ := g.pairs j a hj
  exact Heap.lt_size e
theorem RawG.low {lo lo' : Addr} {h : Heap} {as : List Addr} (g : RawG es lo h as) (q : lo' ≤ lo) : RawG es lo' h as := ⟨g.rise, fun a ha => Nat.lt_of_le_of_lt q (g.above a ha), g.pairs⟩
def seqO (acc : Array Value) (c : Nat) : Obj := { cls := .type "list", dict := none, data := .seq acc c, slots := #[] }
theorem raw_loop {R : Result → Shared → Prop} {Z I d : Addr} (hh : A.handled = none) (zi : Z < I) (zd : d ≠ Z) (id0 : d ≠ I) (hn : es.size ≤ sizeLine) (res : Value) {h₁ : Heap}
    (hR : ∀ h' tk acc c as, (∀ b o, b ≠ Z → b ≠ I → h₁.get? b = some o → h'.get? b = some o) → h'.get? Z = some (seqO acc c) → as.length = es.size → RawG es I h' as → acc.toList = as.map Value.ref → R (.ok (.ret res)) { s with heap := h', toks := tk }) :
    ∀ (k i : Nat) (h : Heap) (tk c : Nat) (acc : Array Value) (as : List Addr), es.size - i = k → i ≤ es.size → KdxSt h I d Z i es.size ep → h.DictRaw d es ep → (∀ b o, b ≠ Z → b ≠ I → h₁.get? b = some o → h.get? b = some o) →
      h.get? Z = some (seqO acc c) → acc.toList = as.map Value.ref → as.length = i → RawG es I h as → I < h.objs.size → codeAny (model prog w) A (.builtin "list.extend.loop" ⟨[.ref Z, .ref I, res], []⟩) R { s with heap := h, toks := tk } := by
  have zne : Z ≠ I := Nat.ne_of_lt zi
  intro k
  induction k with
  | zero =>
    intro i h tk c acc as q1 q2 st hm kp hz q3 q4 g li
    refine codeAny_builtin PySem.F.entry_extend_loop ?_
    rw [Around.under_plainId PySem.F.plain_extend_loop _]
    refine wpAny_bind (m := pyNext (.ref I)) (raw_done (s := { s with heap := h, toks := tk }) (A := A.in1) hh st hm (by omega) fun h' he => ?_)
    refine wpAny_pure (hR h' tk acc c as (fun b o h1 h2 e => he b o h2 (kp b o h1 h2 e)) (he Z _ zne hz) (by omega) ⟨g.rise, g.above, fun j a hj => ?_⟩ q3)
    obtain ⟨hj2, e3⟩ := g.pairs j a hj
    exact ⟨hj2, he a _ (Nat.ne_of_gt (g.above a (List.mem_of_getElem? hj))) e3⟩
  | succ k ih =>
    intro i h tk c acc as q1 q2 st hm kp hz q3 q4 g li
    have hlt : i < es.size := by omega
    have sz : acc.size = i := by rw [← Array.length_toList, q3, List.length_map, q4]
    refine codeAny_builtin PySem.F.entry_extend_loop ?_
    rw [Around.under_plainId PySem.F.plain_extend_loop _]
    refine wpAny_bind (m := pyNext (.ref I)) (raw_item (s := { s with heap := h, toks := tk }) (Z := Z) st (Heap.lt_size hz) hm hlt fun h' st' ht hs hk => ?_)
    dsimp only at ht hs hk ⊢
    have hz' := hk Z _ zne hz
    have up : ∀ b o, b ≠ Z → h'.get? b = some o → (h'.update Z (Obj.mapSeq (·.push (Value.ref h.objs.size)))).get? b = some o := fun b o hb e => (Heap.get?_update_other _ _ (Ne.symm hb)).trans e
    have lz : Z < h.objs.size := Heap.lt_size hz
    refine wpAny_bind (m := updateSeq Z (·.push (Value.ref h.objs.size))) ?_
    obtain ⟨od, ho1, ho2, ho3⟩ := hm
    refine wpAny_updateSeq hz' rfl (wpAny_pure ⟨plainId_quiet PySem.F.plain_extend_loop _, ih (i + 1) _ tk _ (acc.push (Value.ref h.objs.size)) (as ++ [h.objs.size]) (by omega) hlt (st'.keep up (Ne.symm zne)) ⟨od, up d _ zd (hk d _ id0 ho1), ho2, ho3⟩
      (fun b o h1 h2 e => up b o h1 (hk b o h2 (kp b o h1 h2 e))) (Heap.get?_update_self _ hz' rfl) (by rw [Array.toList_push, q3, List.map_append]; rfl) (by rw [List.length_append, q4]; rfl) ⟨?_, ?_, ?_⟩ ?_⟩) (by rw [sz]; omega) (by show (acc.push (Value.ref h.objs.size)).size ≤ sizeLine + 1; rw [Array.size_push, sz]; omega)
    · refine List.pairwise_append.mpr ⟨g.rise, List.pairwise_singleton _ _, fun a ha b hb => ?_⟩
      rw [List.mem_singleton.mp hb]
      exact g.there ha
    · intro a ha
      rcases List.mem_append.mp ha with ha | ha
      · exact g.above a ha
      · rw [List.mem_singleton.mp ha]; exact li
    · intro j b hj
      rcases Nat.lt_trichotomy j as.length with h1 | h1 | h1
      · rw [List.getElem?_append_left h1] at hj
        obtain ⟨e1, e3⟩ := g.pairs j b hj
        have hb := g.above b (List.mem_of_getElem? hj)
        exact ⟨e1, up b _ (Nat.ne_of_gt (Nat.lt_trans zi hb)) (hk b _ (Nat.ne_of_gt hb) e3)⟩
      · subst h1
        have hb : h.objs.size = b := by simpa using hj
        subst hb
        subst q4
        exact ⟨hlt, up _ _ (Nat.ne_of_gt lz) ht⟩
      · rw [List.getElem?_eq_none (by rw [List.length_append, List.length_singleton]; omega)] at hj
        cases hj
    · have e : (h'.update Z (Obj.mapSeq (·.push (Value.ref h.objs.size)))).get? h.objs.size = _ := up _ _ (Nat.ne_of_gt lz) ht
      exact Nat.lt_trans li (Heap.lt_size e)
end
section
variable {prog : Program} {w : World} {A : Around} {E : Value → Shared → Prop} {s : Shared} {es : Array DictEntry} {ep : Nat} {r d : Addr}
def itO (d : Addr) (n ep : Nat) : Obj := { cls := .type "dict_itemiterator", data := .fields #[.none, .bool false, .ref d, .int 0 0, .int n 0, .int ep 0, .none, .none] }
theorem raw_extend {R : Result → Shared → Prop} (hh : A.handled = none) (hv : s.heap.IsItemsView r d) (hm : s.heap.DictRaw d es ep) (Z : Addr) (zr : Z ≠ r) (zd : d ≠ Z) (res : Value) (c₀ : Nat) (hz : s.heap.get? Z = some { cls := .type "list", data := .seq #[] c₀ })
    (hR : ∀ h' tk acc c as, (∀ b o, b ≠ Z → s.heap.get? b = some o → h'.get? b = some o) → h'.get? Z = some (seqO acc c) → as.length = es.size → RawG es s.heap.objs.size h' as → acc.toList = as.map Value.ref → R (.ok (.ret res)) { s with heap := h', toks := tk }) (hn : es.size ≤ sizeLine) :
    wpAny (model prog w) A.in1 (Builtin.List.listExtendWith (.ref Z) (.ref r) res) (fun fin s' => match fin with | .done f => R (.ok f) s' | .again c' => c'.quiet = true ∧ codeAny (model prog w) A c' R s') (fun e s' => R (.error e) s') s := by
  have zi : Z < s.heap.objs.size := Heap.lt_size hz
  obtain ⟨od, ho1, ho2, ho3⟩ := id hm
  have di : d < s.heap.objs.size := Heap.lt_size ho1
  have key : ∀ (h : Heap) (c₁ tk : Nat), (∀ b o, b ≠ Z → (s.heap.push (itO d es.size ep)).get? b = some o → h.get? b = some o) → h.get? Z = some { cls := .type "list", data := .seq #[] c₁ } → codeAny (model prog w) A (.builtin "list.extend.loop" ⟨[.ref Z, .ref s.heap.objs.size, res], []⟩) R { s with heap := h, toks := tk } := by
    intro h c₁ tk hk hz1
    have hI := hk s.heap.objs.size _ (Nat.ne_of_gt zi) (Heap.get?_push_size _ rfl)
    exact raw_loop (s := s) (ep := ep) (h₁ := s.heap) hh zi zd (Nat.ne_of_lt di) hn res (fun h' tk' acc c as hk' q1 q2 q3 q4 => hR h' tk' acc c as (fun b o hb e => hk' b o hb (Nat.ne_of_lt (Heap.lt_size e)) e) q1 q2 q3 q4)
      es.size 0 h tk c₁ #[] [] (Nat.sub_zero _) (Nat.zero_le _) (.inl ⟨rfl, .none, .none, hI⟩) ⟨od, hk d _ zd (Heap.get?_push_of_some _ ho1), ho2, ho3⟩ (fun b o hb _ e => hk b o hb (Heap.get?_push_of_some _ e)) hz1 rfl rfl
      ⟨List.Pairwise.nil, (fun _ ha => nomatch ha), (fun j a hj => by simp at hj)⟩ (Heap.lt_size hI)
  unfold Builtin.List.listExtendWith
  refine wpAny_bind (wpAny_typeOf (T := "dict_items") hv.typeIs ?_)
  have h1 : Builtin.List.listSameRef (.ref Z) (.ref r) = false := by simp [Builtin.List.listSameRef, zr]
  have h2 : (Value.type "dict_items" == Value.type "list") = false := by decide
  have h3 : (Value.type "dict_items" == Value.type "tuple") = false := by decide
  simp only [h1, h2, h3, Bool.or_false, Bool.false_eq_true, if_false]
  refine wpAny_bind (wpAny_pyIter_items_raw hv hm ?_)
  have z1 := Heap.get?_push_of_some (itO d es.size ep) hz
  refine wpAny_bind (wpAny_holding (kdx_hint (let ⟨o, ho, hc, _⟩ := hv; ⟨o, Heap.get?_push_of_some _ ho, hc⟩) ?_))
  refine wpAny_ite_split (fun _ => ?_) (fun _ => wpAny_pure ⟨plainId_quiet PySem.F.plain_extend_loop _, key _ c₀ _ (fun b o _ e => e) z1⟩)
  refine wpAny_bind (wpAny_rule (wpAny_bind ?_))
  show wpAny _ _ (updateSeq Z (·.push .none) >>= fun _ => updateSeq Z (·.pop)) _ _ _
  refine wpAny_bind (wpAny_updateSeq z1 rfl ?_)
  have z2 := Heap.get?_update_self (Obj.mapSeq (·.push Value.none)) z1 rfl
  refine wpAny_updateSeq (hz := by seq_fits) z2 rfl ?_
  have z3 := Heap.get?_update_self (Obj.mapSeq (·.pop)) z2 rfl
  exact wpAny_pure ⟨plainId_quiet PySem.F.plain_extend_loop _, key _ _ _ (fun b o hb e => (Heap.get?_update_other _ _ (Ne.symm hb)).trans ((Heap.get?_update_other _ _ (Ne.symm hb)).trans e)) z3⟩
theorem raw_call {Q : Value → Shared → Prop} (hh : A.handled = none) (hv : s.heap.IsItemsView r d) (hm : s.heap.DictRaw d es ep) (hn : es.size ≤ sizeLine)
    (hQ : ∀ h' tk acc c as, (∀ b o, s.heap.get? b = some o → h'.get? b = some o) → h'.get? s.heap.objs.size = some (seqO acc c) → as.length = es.size → RawG es s.heap.objs.size h' as → acc.toList = as.map Value.ref → Q (.ref s.heap.objs.size) { s with heap := h', toks := tk }) :
    wpAny (model prog w) A (call (.type "list") [.ref r]) Q E s := by
  refine callType_codes (Q₁ := fun obj s₁ => obj = .ref s.heap.objs.size ∧ s₁ = { s with heap := s.heap.push { cls := .type "list", data := .seq #[] } }) PySem.F.called_list (PySem.F.typeCall_list_1 _) PySem.F.entry_list_init (code_list_new _ ⟨rfl, rfl⟩) fun obj s₁ h₁ => ?_
  obtain ⟨rfl, rfl⟩ := h₁
  obtain ⟨ov, hv1, hv2⟩ := id hv
  obtain ⟨od, ho1, ho2, ho3⟩ := id hm
  generalize hZ : s.heap.objs.size = Z at *
  have z0 : (s.heap.push { cls := .type "list", data := .seq #[] }).get? Z = some { cls := .type "list", data := .seq #[] } := by rw [← hZ]; exact Heap.get?_push_size _ rfl
  have rz : r < Z := by rw [← hZ]; exact Heap.lt_size hv1
  have dz : d < Z := by rw [← hZ]; exact Heap.lt_size ho1
  refine ⟨⟨_, z0, rfl⟩, PySem.F.args_list_init_2 _ _, ?_⟩
  show wpAny _ _ (do let old ← Builtin.List.listItems (.ref Z); Builtin.List.listUpdate (.ref Z) (fun _ => #[]); letGo old.toList.reverse; Builtin.List.listExtendWith (.ref Z) (.ref r) .none) _ _ _
  refine wpAny_bind ?_
  unfold Builtin.List.listItems
  refine wpAny_bind (wpAny_seqItems z0 rfl (wpAny_pure ?_))
  refine wpAny_bind (m := updateSeq Z (fun _ => #[])) (wpAny_updateSeq z0 rfl ?_)
  have z2 := Heap.get?_update_self (Obj.mapSeq (fun _ => (#[] : Array Value))) z0 rfl
  have oth : ∀ b o, b ≠ Z → s.heap.get? b = some o → ((s.heap.push { cls := .type "list", data := .seq #[] }).update Z (Obj.mapSeq (fun _ => (#[] : Array Value)))).get? b = some o := fun b o hb e => (Heap.get?_update_other _ _ (Ne.symm hb)).trans (Heap.get?_push_of_some _ e)
  refine wpAny_bind (m := letGo (#[] : Array Value).toList.reverse) (wpAny_letGo ?_)
  refine raw_extend (A := A.in1) hh ⟨ov, oth r _ (Nat.ne_of_lt rz) hv1, hv2⟩ ⟨od, oth d _ (Nat.ne_of_lt dz) ho1, ho2, ho3⟩ Z (Nat.ne_of_gt rz) (Nat.ne_of_lt dz) .none _ z2 (fun h' tk acc c as hk q1 q2 q3 q4 => ?_) hn
  refine ⟨rfl, hQ h' tk acc c as (fun b o e => hk b o (fun z => ?_) (oth b o (fun z => ?_) e)) q1 q2 (q3.low (Nat.le_of_lt (Heap.lt_size z2))) q4⟩
  · have := Heap.lt_size e; rw [hZ, z] at this; exact Nat.lt_irrefl _ this
  · have := Heap.lt_size e; rw [hZ, z] at this; exact Nat.lt_irrefl _ this
end
end IT
set_option Elab.async false
set_option linter.all false
set_option maxRecDepth 100000
set_option maxHeartbeats 4000000
/-! list(d.items()) of a dict whose keys are tuples, by values -/
namespace IT
open PySem PySem.Spec PyProof.Rows L2 PySem.W
/-- the pairs ps stand at as -/
def putP : Hp → List Addr → List (V × V) → Hp
  | H, a :: as, p :: ps => putP (upd H a (.tup [p.1, p.2])) as ps
  | H, _, _ => H
theorem putP_off {b : Addr} : ∀ (as : List Addr) (ps : List (V × V)) (H : Hp), b ∉ as → putP H as ps b = H b
  | [], _, _, _ => rfl
  | _ :: _, [], _, _ => rfl
  | a :: as, p :: ps, H, h => by
    show putP (upd H a (.tup [p.1, p.2])) as ps b = H b
    rw [putP_off as ps _ (fun z => h (List.mem_cons_of_mem _ z)), upd_ne (fun z => h (by rw [z]; exact List.mem_cons_self))]
theorem putP_at : ∀ (as : List Addr) (ps : List (V × V)) (H : Hp), as.length = ps.length → as.Nodup → Paired (fun (t : Addr) (p : V × V) => putP H as ps t = some (.tup [p.1, p.2])) as ps
  | [], [], _, _, _ => .nil
  | [], _ :: _, _, h, _ => by cases h
  | _ :: _, [], _, h, _ => by cases h
  | a :: as, p :: ps, H, h, hn => by
    have hn' := List.nodup_cons.mp hn
    refine .cons ?_ (putP_at as ps (upd H a (.tup [p.1, p.2])) (Nat.succ.inj h) hn'.2)
    show putP (upd H a (.tup [p.1, p.2])) as ps a = _
    rw [putP_off as ps _ hn'.1, upd_same]
theorem ix_of {α β : Type} {F : α → β → Prop} : ∀ {xs : List α} {ys : List β}, Paired F xs ys → ∀ {x : α}, x ∈ xs → ∃ (j : Nat) (y : β), xs[j]? = some x ∧ ys[j]? = some y ∧ F x y
  | _, _, .cons h t, x, hx => by
    rcases List.mem_cons.mp hx with e | hx
    · exact ⟨0, _, by rw [e]; rfl, rfl, by rw [e]; exact h⟩
    · obtain ⟨j, y, e1, e2, e3⟩ := ix_of t hx
      exact ⟨j + 1, y, e1, e2, e3⟩
theorem refs_vals : ∀ as : List Addr, Vals (as.map V.ref) (as.map Value.ref)
  | [] => .nil
  | _ :: as => .cons rfl (refs_vals as)
section
variable {X : Cx} {e : Expr} {te : TE} {p apos cpos pos : Pos}
theorem pairs_laid {pins : List (Addr × Obj)} {σ : L2.St} {H : Hp} {s : Shared} {h' : Heap} {tk : Nat} {ps : List (V × V)} {es : Array DictEntry} {acc : Array Value} {c : Nat} {as : List Addr} (I : Inv X pins σ H s) (hz : ps.length ≤ sizeLine) (hp : ps.length = es.size)
    (rel : ∀ (j : Nat) (q : V × V), ps[j]? = some q → ∃ hj : j < es.size, RelV q.1 es[j].key ∧ RelV q.2 es[j].val)
    (hk : ∀ b o, s.heap.get? b = some o → h'.get? b = some o) (hS : h'.get? s.heap.objs.size = some (seqO acc c)) (hl : as.length = es.size) (g : RawG es s.heap.objs.size h' as) (hacc : acc.toList = as.map Value.ref) :
    ∃ H' : Hp, (∀ b o, H b = some o → H' b = some o) ∧ H s.heap.objs.size = none ∧ (∀ t ∈ as, H t = none) ∧ s.heap.objs.size ∉ as ∧ H' s.heap.objs.size = some (.lst (as.map V.ref)) ∧ Paired (fun (t : Addr) (q : V × V) => H' t = some (.tup [q.1, q.2])) as ps ∧ (∀ b, H b = none → b ∉ as → b ≠ s.heap.objs.size → H' b = none) ∧ as.Nodup ∧ Inv X pins σ H' { s with heap := h', toks := tk } := by
  have nS : s.heap.objs.size ∉ as := fun z => Nat.lt_irrefl _ (g.above _ z)
  have nd : as.Nodup := List.Pairwise.imp (fun {a b} (h : a < b) => Nat.ne_of_lt h) g.rise
  have new : ∀ t ∈ as, H t = none := fun t ht => I.hok.fresh (Nat.le_of_lt (g.above t ht))
  have newS : H s.heap.objs.size = none := I.hok.fresh (Nat.le_refl _)
  have atP := putP_at as ps (upd H s.heap.objs.size (.lst (as.map V.ref))) (by omega) nd
  have off : ∀ b, b ∉ as → b ≠ s.heap.objs.size → putP (upd H s.heap.objs.size (.lst (as.map V.ref))) as ps b = H b := fun b h1 h2 => by rw [putP_off as ps _ h1, upd_ne h2]
  have low : ∀ b o, s.heap.get? b = some o → b ∉ as ∧ b ≠ s.heap.objs.size := fun b o e => ⟨fun z => absurd (Heap.lt_size e) (Nat.not_lt.mpr (Nat.le_of_lt (g.above b z))), Nat.ne_of_lt (Heap.lt_size e)⟩
  have kp : ∀ b u, H b = some u → (putP (upd H s.heap.objs.size (.lst (as.map V.ref))) as ps) b = some u := fun b u e => by
    rw [off b (fun z => by rw [new b z] at e; cases e) (fun z => by rw [z, newS] at e; cases e)]
    exact e
  have eS : putP (upd H s.heap.objs.size (.lst (as.map V.ref))) as ps s.heap.objs.size = some (.lst (as.map V.ref)) := by rw [putP_off as ps _ nS, upd_same]
  refine ⟨_, kp, newS, new, nS, eS, atP, fun b h1 h2 h3 => by rw [off b h2 h3]; exact h1, nd, ?_⟩
  refine I.call' (ch := []) rfl ⟨fun b o q _ _ _ => hk b o q, fun b o q _ _ _ => ⟨o.slots, hk b o q⟩, fun b o q n _ => ?_, fun b o q _ => ⟨o, hk b o q⟩, fun b xs q => kp b _ q, fun b o u q => kp b _ q, fun b qs q => ⟨#[], by rw [kp b _ q]; simp⟩⟩ (fun b u q => ?_) I.bare fun b z => absurd z List.not_mem_nil
  · obtain ⟨z1, z2⟩ := low b o q
    rw [off b z1 z2]
    exact n
  · by_cases hb : b ∈ as
    · obtain ⟨j, pk, e1, e2, e3⟩ := ix_of atP hb
      rw [e3] at q
      cases q
      obtain ⟨hj, f3⟩ := g.pairs j b e1
      obtain ⟨_, r1, r2⟩ := rel j pk e2
      exact ⟨by show 2 ≤ sizeLine; decide, [es[j].key, es[j].val], .cons r1 (.cons r2 .nil), ⟨_, f3, rfl, _, rfl⟩⟩
    · by_cases hb2 : b = s.heap.objs.size
      · rw [hb2] at q ⊢
        rw [eS] at q
        cases q
        refine ⟨by rw [List.length_map]; omega, acc.toList, c, by rw [hacc]; exact refs_vals as, ?_⟩
        rw [Array.toArray_toList]
        exact hS
      · rw [off b hb hb2] at q
        exact (I.hok b u q).stay (fun d v _ y => hk d v y) (fun d y => kp d _ y) fun d xs y => kp d _ y
/-- what stands in a dict of tuple keys -/
theorem raw_own {pins : List (Addr × Obj)} {σ : L2.St} {H : Hp} {s : Shared} {d : Addr} {kvs : List (List Key × V)} (I : Inv X pins σ H s) (h : Rd H d (.dT kvs)) : ∃ (o : Obj) (es : Array DictEntry) (ep : Nat), (d == sysModules) = false ∧ s.heap.get? d = some o ∧ o.ExactDict ∧ o.data = .dict es ep ∧ es.size = kvs.length ∧ kvs.length ≤ sizeLine ∧
    ∃ qs : List Addr, qs.length = kvs.length ∧ ∀ (j : Nat) (q : Addr), qs[j]? = some q → ∃ (k : List Key) (v : V) (hj : j < es.size), kvs[j]? = some (k, v) ∧ es[j].key = .ref q ∧ H q = some (.tup (k.map kV)) ∧ RelV v es[j].val := by
  obtain ⟨z, hs, xs, pr, o, es, ep, ho, hx, hdt, he, _⟩ := dt_rd I.hok h
  have l1 : es.size = xs.length := size_of_entries he
  have l2 : kvs.length = xs.length := Paired.length pr
  refine ⟨o, es, ep, hs, ho, hx, hdt, by omega, z, xs.map (·.2.1), by rw [List.length_map]; omega, fun j q hq => ?_⟩
  rw [List.getElem?_map] at hq
  obtain ⟨x, hx1, rfl⟩ := Option.map_eq_some_iff.mp hq
  have hjx := (List.getElem?_eq_some_iff.mp hx1).1
  obtain ⟨b, hb, e1, e2, e3⟩ := paired_get pr (i := j) (a := kvs[j]'(by omega)) (List.getElem?_eq_getElem _)
  rw [hx1] at hb
  cases hb
  have hj : j < es.size := by omega
  have hen : es[j] = entryOfKey (tupleKind (mixKind X.prog X.w)) x := by
    have q : es.toList[j]? = some (entryOfKey (tupleKind (mixKind X.prog X.w)) x) := by rw [he, List.getElem?_map, hx1]; rfl
    rw [Array.getElem?_toList, Array.getElem?_eq_getElem hj] at q
    exact Option.some.inj q
  exact ⟨_, _, hj, List.getElem?_eq_getElem (by omega), by rw [hen]; rfl, e2, by rw [hen]; exact e3⟩
/-- list(d.items()): the list, its pairs, all new -/
def rItemsLT : V → Hp → VK → Prop := fun x H Q => ∃ (d : Addr) (kvs : List (List Key × V)), x = .ref d ∧ Rd H d (.dT kvs) ∧
  ∀ (H' : Hp) (p : Addr) (ts qs : List Addr), (∀ b o, H b = some o → H' b = some o) → (∀ b, H b = none → b ∉ ts → b ≠ p → H' b = none) → H p = none → (∀ t ∈ ts, H t = none) → p ∉ ts → ts.Nodup → H' p = some (.lst (ts.map V.ref)) → qs.length = kvs.length → ts.length = kvs.length →
    (∀ (j : Nat) (t q : Addr), ts[j]? = some t → qs[j]? = some q → ∃ k v, kvs[j]? = some (k, v) ∧ H q = some (.tup (k.map kV)) ∧ H' t = some (.tup [.ref q, v])) → Q (.ref p) H'
def tListItemsT (te : TE) : TE := fun σ H Q => te σ H fun x H1 => rItemsLT x H1 Q
theorem pe_listItemsT (hc : X.calm = true) (he : PE X e te) (hg : Gl X "list") (hm : X.mg "list" = none) (hv : bootBuiltins "list" = some (.type "list")) (hbase : attributeBase e "items" X.env (eval e X.env) = eval e X.env := by rfl) (hline : (apos.endLine == cpos.line) = true := by rfl)
    (hs : starEach [.Call (.Attribute e "items" apos) [] [] cpos] X.env = (false, eval (.Call (.Attribute e "items" apos) [] [] cpos) X.env) :: starEach [] X.env := by rfl) :
    PE X (.Call (.Name "list" p) [.Call (.Attribute e "items" apos) [] [] cpos] [] pos) (tListItemsT te) := by
  refine ⟨fun pins s σ H Q I hq => ?_⟩
  refine wpAny_Call_Name_kw (ld_blt I hg hm hv (PyProof.Rows.callWith_type1 ?_ hs rfl))
  rw [hs]
  show wpAny _ _ (spliced ((false, eval (.Call (.Attribute e "items" apos) [] [] cpos) X.env) :: backTo pos (starEach [] X.env))) _ _ s
  refine Calls.spliced_cons (wpAny_Call_method (T := "dict") (id := "dict.items") hbase rfl hline F.plainAttrs_dict F.slot_dict_items F.type_dict_items (thn (he.run pins s σ H _ I hq) fun u s1 ⟨x, H1, I1, rx, d, kvs, ex, hd, q⟩ => ?_))
  subst ex
  obtain rfl : u = Value.ref d := rx
  obtain ⟨o, es, ep, hs0, hgd, hx, hdt, hsz, hz, qs, hql, rel⟩ := raw_own I1 hd
  have I2 : Inv X pins σ H1 { s1 with heap := s1.heap.push { cls := .type "dict_items", data := .fields #[.ref d] } } := I1.kept (t' := s1.toks) fun b ob q => Heap.get?_push_of_some _ q
  refine ⟨⟨o, hgd, hx.1⟩, fun a e => by cases e; exact ⟨o, hgd, hx.2.1⟩, ?_⟩
  show wpAny _ _ (callWith cpos (.builtin "dict.items") [.ref d] [] []) _ X.xe s1
  refine method_meetsIn F.slot_dict_items F.entry_dict_items rfl (PySem.evalArgs_none ⟨rfl, ⟨o, hgd, hx.1⟩, F.args_dict_items_1 _, _, meets_dict_items_raw d hs0, ⟨es, ep, ⟨o, hgd, hx, hdt⟩⟩, ?_⟩)
  refine Calls.spliced_nil ?_
  refine raw_call (I1.ok.hd hc) ⟨_, Heap.get?_push_size _ rfl, rfl, rfl⟩ ⟨o, Heap.get?_push_of_some _ hgd, hx, hdt⟩ (by omega) fun h' tk acc c as hk hS hl hG hacc => ?_
  have zl : (qs.zip (kvs.map (·.2))).length = es.size := by rw [List.length_zip, List.length_map, hql]; omega
  have zg : ∀ (j : Nat) (pr : Addr × V), (qs.zip (kvs.map (·.2)))[j]? = some pr → ∃ (k : List Key) (hj : j < es.size), qs[j]? = some pr.1 ∧ kvs[j]? = some (k, pr.2) ∧ es[j].key = .ref pr.1 ∧ H1 pr.1 = some (.tup (k.map kV)) ∧ RelV pr.2 es[j].val := fun j pr h => by
    rw [List.getElem?_zip_eq_some] at h
    obtain ⟨h1, h2⟩ := h
    obtain ⟨k, v, hj, e1, e2, e3, e4⟩ := rel j pr.1 h1
    rw [List.getElem?_map, e1] at h2
    cases h2
    exact ⟨k, hj, h1, e1, e2, e3, e4⟩
  obtain ⟨H', k1, k2, k3, k4, k5, k6, k7, k8, J⟩ := pairs_laid (ps := (qs.zip (kvs.map (·.2))).map fun pr => (V.ref pr.1, pr.2)) (tk := tk) I2 (by rw [List.length_map, zl]; omega) (by rw [List.length_map, zl]) (fun j q hq => by
    rw [List.getElem?_map] at hq
    obtain ⟨pr, h1, rfl⟩ := Option.map_eq_some_iff.mp hq
    obtain ⟨k, hj, e0, e1, e2, e3, e4⟩ := zg j pr h1
    exact ⟨hj, e2, e4⟩) hk hS hl hG hacc
  refine ⟨.ref _, H', J, rfl, q H' _ as qs k1 k7 k2 k3 k4 k8 k5 hql (by omega) fun j t qa ht hqa => ?_⟩
  obtain ⟨k, v, hj, e1, e2, e3, e4⟩ := rel j qa hqa
  obtain ⟨pr, hpr, hH⟩ := paired_get k6 (i := j) (a := t) ht
  rw [List.getElem?_map] at hpr
  obtain ⟨pr2, h1, rfl⟩ := Option.map_eq_some_iff.mp hpr
  obtain ⟨k', hj', e0', e1', e2', e3', e4'⟩ := zg j pr2 h1
  rw [hqa] at e0'
  cases e0'
  rw [e1] at e1'
  cases e1'
  exact ⟨k, pr2.2, e1, e3, hH⟩
end
end IT
set_option Elab.async false
set_option linter.all false
set_option maxRecDepth 100000
set_option maxHeartbeats 4000000
/-! dicts whose keys are tuples: a comprehension, a display of one pair -/
namespace IT
open PySem PySem.Spec PyProof.Rows L2
section
variable {X : Cx} {pins : List (Addr × Obj)} {σ : L2.St} {H : Hp} {s : Shared}
/-- a pair is put into a tracked dict of tuple keys -/
theorem setT_ok {E : Value → Shared → Prop} {D x : Addr} {k : List L2.Key} {L : List (List L2.Key × V)} {v : V} {r : Value} {Q : Unit → Shared → Prop} (I : Inv X pins σ H s) (hu : X.A.units + 1 < cLine) (hD : H D = some (.dT L)) (hx : H x = some (.tup (k.map kV))) (few : L.length < sizeLine) (rv : RelV v r)
    (h : ∀ s', Inv X pins σ (upd H D (.dT (putK L k v))) s' → Q () s') : wpAny (model X.prog X.w) X.A (dictSet D (.ref x) r) Q E s := by
  obtain ⟨z, nd, xs, rel, dd⟩ := dt_of I.hok hD
  have lz : xs.length ≤ sizeLine := by rw [← Paired.length rel]; exact z
  have lp : (putK L k v).length ≤ sizeLine := by have := length_putK L k v; omega
  refine wpAny_dictSet_heap (hsz := lz) (show (tupleKind (mixKind X.prog X.w)).room X.A from Nat.lt_of_succ_lt hu) (key_of I.hok hx) dd fun h' dd' sb => h _ ?_
  obtain ⟨q, es, ep, hq, h2, h3, h4, _, h5⟩ := dd'
  refine d_write I (by rw [hD]; exact True.intro) sb ⟨q, hq⟩ ⟨lp, nd, _, (rel.put k hx rv).keeps fun c ys ec => ?_, q, es, ep, hq, h2, h3, h4, h5⟩
  rw [upd_ne (ne_of ec hD (fun z => nomatch z))]
  exact ec
end
section
variable {X : Cx}
/-- {k: v}, k a tuple: the new dict stands empty while the pair is made -/
def tDisp1T (tk tv : TE) : TE := fun σ H Q => ∀ D, H D = none → tk σ (upd H D (.dT [])) fun y H1 => tv σ H1 fun z H2 => ∃ (x : Addr) (k : List L2.Key), y = .ref x ∧ H2 x = some (.tup (k.map kV)) ∧ H2 D = some (.dT []) ∧ Q (.ref D) (upd H2 D (.dT [(k, z)]))
theorem pe_disp1T {k v : Expr} {pos : Pos} {tk tv : TE} (hu : X.A.units + 1 < cLine) (hk : PE X k tk) (hv : PE X v tv) : PE X (.Dict [some k] [v] pos) (tDisp1T tk tv) := by
  refine ⟨fun pins s σ H Q I q => ?_⟩
  have free := I.hok.fresh (Nat.le_refl s.heap.objs.size)
  have I1 := I.laid (a := s.heap.objs.size) (o := .dT []) (h' := s.heap.push { cls := .type "dict", data := .dict #[] }) (t' := s.toks) (fun _ _ q => Heap.get?_push_of_some _ q) (Nat.le_refl _) (dt_empty s.heap I.big)
  have sh : (evalEachOpt [some k] X.env).zip ((evalEach [v] X.env).map fun u => do let x ← u; standAt pos; pure x) = [(eval k X.env, (do let x ← eval v X.env; standAt pos; pure x))].map fun p => (some p.1, p.2) := by rfl
  rw [arm_eval_Dict, sh, dictDisplay_pairs _ (by simp) (by simp)]
  refine wpAny_bind (wpAny_standAt (wpAny_bind ?_))
  unfold subDict
  refine wpAny_bind (wpAny_alloc ?_)
  refine wpAny_bind (wpAny_holding ?_)
  rw [if_pos (by simp)]
  refine wpAny_bind (evalPairs_cons (thn (hk.run pins _ σ _ _ I1 (q _ free)) fun u s1 ⟨y, H1, I2, r1, q1⟩ => wpAny_bind (thn (hv.run pins s1 σ H1 _ I2 q1) fun u2 s2 ⟨z, H2, I3, r2, x, kk, ey, hx, hD, q2⟩ => wpAny_bind (wpAny_standAt (wpAny_pure (evalPairs_nil ?_))))))
  subst ey
  cases r1
  refine wpAny_holding ?_
  rw [List.forIn_cons]
  refine wpAny_bind (wpAny_bind (wpAny_bind (setT_ok I3 hu hD hx (by rw [sizeLine_eq]; decide) r2 fun s3 I4 => wpAny_pure ?_)))
  dsimp only
  rw [List.forIn_nil]
  exact wpAny_pure (wpAny_pure (wpAny_pure (wpAny_pure ⟨.ref s.heap.objs.size, _, I4, rfl, q2⟩)))
/-- {k: v for tg in iter if ..}, k a tuple: D the new dict -/
def tDcT (wi : TI) (g : TG) (tt : TT) (te tv : TE) (vs : List Nat) : TE := fun σ H Q => wi σ H fun J H1 => ∀ D, H1 D = none → ∃ W : Nat → Nat → Hp → Prop, (∃ m, W 0 m (upd H1 D (.dT []))) ∧ ∀ i m H, W i m H →
  (J.stop i H ∧ Q (.ref D) H) ∨ (J.go i H ∧ ∃ Nx : Hp → Prop, (∀ H', Nx H' → ∃ m', m' < m ∧ W (i + 1) m' H') ∧ ∀ x H', J.yld i H x H' → g x (wipe σ vs) H' fun σ2 H2 => wipe σ2 vs = wipe σ vs ∧ tt σ2 H2 fun b H3 =>
    if b = true then te σ2 H3 fun y H4 => tv σ2 H4 fun z H5 => ∃ (x : Addr) (k : List L2.Key) (L : List (List L2.Key × V)), y = .ref x ∧ H5 x = some (.tup (k.map kV)) ∧ H5 D = some (.dT L) ∧ L.length < sizeLine ∧ Nx (upd H5 D (.dT (putK L k z))) else Nx H3)
theorem dc_tups {pins : List (Addr × Obj)} {s : Shared} {σ : L2.St} {H : Hp} {Q : VK} {kx vx tg iter : Expr} {ifs : List Expr} {scope : Scope} {own : List (PySem.Str × Nat)} {pos pos' : Pos} {wi : TI} {g : TG} {tt : TT} {te tv : TE} {use : Option (Value → Sem Unit)} {Qf : Value → Shared → Prop}
    (hc : X.calm = true) (hN : X.N.Nodup) (I : Inv X pins σ H s) (hi : PI X tg iter wi) (ok : BlkOk X.N X.env.scope scope own)
    (hg : ∀ (s : Shared) (H : Hp) (C : Addr) (cl : List (PySem.Str × Addr)) (fp : List Addr), PG (X.blk s H scope (compEnvC scope cl C X.env) fp) tg g) (ht : ∀ (s : Shared) (H : Hp) (C : Addr) (cl : List (PySem.Str × Addr)) (fp : List Addr), PTs (X.blk s H scope (compEnvC scope cl C X.env) fp) ifs tt)
    (he : ∀ (s : Shared) (H : Hp) (C : Addr) (cl : List (PySem.Str × Addr)) (fp : List Addr), PE (X.blk s H scope (compEnvC scope cl C X.env) fp) kx te) (hv : ∀ (s : Shared) (H : Hp) (C : Addr) (cl : List (PySem.Str × Addr)) (fp : List Addr), PE (X.blk s H scope (compEnvC scope cl C X.env) fp) vx tv) (hs : ∀ x, foldedSetIterable iter X.env x = pure x)
    (hu : X.A.units + 1 < cLine) (h : tDcT wi g tt te tv (own.map (·.2)) σ H Q)
    (hRR : ∀ D C s' m H', Inv X pins σ H' s' → Q (.ref D) H' → s'.heap.Ns C m → FpOk X pins H' C → compPost (model X.prog X.w) X.A X.xe use Qf (.ref D) C (.ok .next) s') :
    wpAny (model X.prog X.w) X.A (comprehension (.DictComp kx vx [⟨tg, iter, ifs, 0⟩] scope pos) scope X.env pos' newDict false (eval iter X.env) use) Qf X.xe s := by
  have fr0 : ∀ y ∈ scope.names, y.2 = .free → ∃ c, X.env.cells.lookup y.1 = some c := fun y hy e => by
    rcases ok.free y hy e with k | k
    · exact I.ok.has _ (.inl k)
    · exact I.ok.has _ (.inr k)
  refine wpAny_comprehension_free (use := use) rfl hs (closure_ok fr0) ok.kind (fun y hy e => by rw [ok.uniq y hy, e])
    (thn (hi.run pins s σ H _ I h) fun xv s1 hx => thn hx fun itv s2 h2 => ?_)
  obtain ⟨it, fp, tn, J, H2, e, I2, T, st2, f2, q⟩ := h2
  subst e
  refine wpAny_newObj_type (newEnv_comp ?_)
  generalize eD : s2.heap.objs.size = D
  have dn0 : H2 D = none := I2.hok.fresh (Nat.le_of_eq eD)
  obtain ⟨W, ⟨m0, w0⟩, turn⟩ := q D dn0
  -- the new list
  generalize es3 : ({ s2 with heap := s2.heap.push { cls := .type "dict", data := .dict #[] } } : Shared) = s3
  have I3 : Inv X pins σ (upd H2 D (.dT [])) s3 := by
    rw [← es3]
    refine I2.laid (t' := s2.toks) (fun b o e => Heap.get?_push_of_some _ e) (Nat.le_of_eq eD) ?_
    rw [← eD]
    exact dt_empty s2.heap I2.big
  have h3 : s3.heap = s2.heap.push { cls := .type "dict", data := .dict #[] } := by rw [← es3]
  have ss0 : ∀ b ∈ fp, b < s2.heap.objs.size := fun b hb => by
    obtain ⟨o, e, _⟩ := T.obj _ _ st2 b hb
    exact Heap.lt_size e
  have g3 : ∀ b ∈ fp, FpOk X pins (upd H2 D (.dT [])) b ∧ b < s3.heap.objs.size := fun b hb => by
    have hlt := ss0 b hb
    refine ⟨⟨?_, (f2 b hb).2⟩, by rw [h3, Heap.size_push]; exact Nat.lt_succ_of_lt hlt⟩
    rw [upd_ne (by rw [← eD]; exact Nat.ne_of_lt hlt)]
    exact (f2 b hb).1
  have t3 : tn 0 s3.heap := T.keep _ _ _ st2 fun b _ o e => by rw [h3]; exact Heap.get?_push_of_some _ e
  have I4 := block_start I3 ok hN g3
  have pgu := hg s3 (upd H2 D (.dT [])) s3.heap.objs.size (cellsFrom (s3.heap.objs.size + 1) scope.names (cloFrom X.env.cells scope.names [])) fp
  have ptu := ht s3 (upd H2 D (.dT [])) s3.heap.objs.size (cellsFrom (s3.heap.objs.size + 1) scope.names (cloFrom X.env.cells scope.names [])) fp
  have pvu := hv s3 (upd H2 D (.dT [])) s3.heap.objs.size (cellsFrom (s3.heap.objs.size + 1) scope.names (cloFrom X.env.cells scope.names [])) fp
  have peu := he s3 (upd H2 D (.dT [])) s3.heap.objs.size (cellsFrom (s3.heap.objs.size + 1) scope.names (cloFrom X.env.cells scope.names [])) fp
  show codeAny _ _ (.compStart (.DictComp kx vx [⟨tg, iter, ifs, 0⟩] scope pos) 0 (.ref it) (.ref D) (compEnvC scope (cellsFrom (s3.heap.objs.size + 1) scope.names (cloFrom X.env.cells scope.names [])) s3.heap.objs.size X.env)) (compPost (model X.prog X.w) X.A X.xe use Qf (.ref D) s3.heap.objs.size) { s3 with heap := pushCells (s3.heap.push { cls := .type "dict", data := .dict #[] }) scope.names }
  have nf0 : ∀ b ∈ fp, (upd H2 D (.dT [])) b = none := fun b hb => (g3 b hb).1.1
  generalize ece : compEnvC scope (cellsFrom (s3.heap.objs.size + 1) scope.names (cloFrom X.env.cells scope.names [])) s3.heap.objs.size X.env = ce at I4 pgu ptu peu pvu ⊢
  have clo : ce.locals = s3.heap.objs.size := by subst ece; rfl
  generalize eH3 : upd H2 D (.dT []) = H3 at I3 I4 pgu ptu peu pvu w0 nf0 g3
  generalize es4 : ({ s3 with heap := pushCells (s3.heap.push { cls := .type "dict", data := .dict #[] }) scope.names } : Shared) = s4 at I4 ⊢
  have t4 : tn 0 s4.heap := T.keep _ _ _ t3 fun b _ o e => by rw [← es4]; exact pushCells_keeps _ _ _ _ (Heap.get?_push_of_some _ e)
  have sta : ∀ {σ' : L2.St} {H' : Hp} {s' : Shared}, Inv (X.blk s3 H3 scope ce fp) [] σ' H' s' → (∀ b ∈ fp, H' b = none) → ∀ b ∈ fp, FpOk (X.blk s3 H3 scope ce fp) [] H' b := fun {σ' H' s'} I' hn b hb =>
    ⟨hn b hb, (I'.ok.exf b hb).1, I'.ok.exfs b hb, .inl hb, fun x c e => (I'.ok.exf b hb).2 x c e, fun p hp => absurd (show p ∈ ([] : List (Addr × Obj)) ++ [] from hp) (by simp)⟩
  have loop : codeAny (model X.prog X.w) X.A (.compLoop (.DictComp kx vx [⟨tg, iter, ifs, 0⟩] scope pos) 0 (.ref it) (.ref D) ce) (compPost (model X.prog X.w) X.A X.xe use Qf (.ref D) s3.heap.objs.size) s4 := by
    refine compLoop_anyD (fun n s' => ∃ i H', Inv (X.blk s3 H3 scope ce fp) [] (wipe σ (own.map (·.2))) H' s' ∧ tn i s'.heap ∧ (∀ b ∈ fp, H' b = none) ∧ W i n H') ?_ m0 ⟨0, H3, I4, t4, nf0, w0⟩
    rintro n s5 ⟨i, H5, I5, t5, n5, w5⟩
    rcases turn i n H5 w5 with ⟨stop, qq⟩ | ⟨go, Nx, hNx, step⟩
    · have td := T.done (X.blk s3 H3 scope ce fp) rfl rfl rfl hc i [] s5 _ H5 (fun _ _ => False) I5 (sta I5 n5) t5 stop
      refine thnF td fun r s6 ⟨hr, I6⟩ => ?_
      subst hr
      -- back in the def's context
      have I7 : Inv X pins σ H5 s6 := I3.call' (ch := fp) I6.os I6.base I6.hok I6.bare fun b hb => ⟨(g3 b hb).1.2.2.2.1, (g3 b hb).1.2.1, (g3 b hb).1.2.2.2.2.1, (g3 b hb).1.2.2.2.2.2⟩
      have nC : H5 s3.heap.objs.size = none := by
        have z : H5 ce.locals = none := I6.free
        rw [clo] at z
        exact z
      obtain ⟨m, hn, _⟩ := I6.loc
      have hn : s6.heap.Ns ce.locals m := hn
      rw [clo] at hn
      exact hRR D s3.heap.objs.size s6 m H5 I7 qq hn (I3.fpOk (Nat.le_refl _) nC)
    · have ti := T.item (X.blk s3 H3 scope ce fp) rfl rfl rfl hc i [] s5 _ H5 (fun _ _ => False) I5 (sta I5 n5) t5 go
      refine thnF ti fun r s6 ⟨u, hr, h6⟩ => ?_
      subst hr
      refine thnF h6 fun _ s7 ⟨x, H7, I7, r7, y7, t7, n7⟩ => ?_
      have I7' := I7.pinned (sta I7 n7) (T.obj _ _ t7)
      refine thnF (pgu.run _ s7 _ H7 x u _ I7' r7 (step x H7 y7)) fun _ s8 ⟨σ8, H8, I8, hw8, q8⟩ => ?_
      refine thnF (ptu.run _ s8 σ8 H8 _ I8 q8) fun b s9 ⟨H9, I9, q9⟩ => ?_
      -- the turn's end
      have ende : ∀ {s' : Shared} {H' : Hp}, Inv (X.blk s3 H3 scope ce fp) ([] ++ pinsAt fp s7.heap) σ8 H' s' → Nx H' → ∃ m, m < n ∧ ∃ i H', Inv (X.blk s3 H3 scope ce fp) [] (wipe σ (own.map (·.2))) H' s' ∧ tn i s'.heap ∧ (∀ b ∈ fp, H' b = none) ∧ W i m H' := fun {s' H'} I' nx => by
        obtain ⟨m', hm, w'⟩ := hNx H' nx
        have pin' : ∀ b ∈ fp, ∀ o, s7.heap.get? b = some o → s'.heap.get? b = some o ∧ H' b = none := fun b hb o e =>
          let z := I'.pin (b, o) (List.mem_append_right _ (List.mem_append_right _ (mem_pinsAt hb e)))
          ⟨z.1, z.2.1⟩
        have hl : (wipe σ (own.map (·.2))).length = σ8.length := by rw [← hw8, wipe_length]
        refine ⟨m', hm, i + 1, H', (I'.unpinned (pins := [])).weak hl (fun j v e => ?_), T.keep _ _ _ t7 fun b hb o e => (pin' b hb o e).1, fun b hb => ?_, w'⟩
        · rw [← hw8] at e
          exact (wipe_some e).1
        · obtain ⟨o, e, _⟩ := T.obj _ _ t7 b hb
          exact (pin' b hb o e).2
      cases b with
      | false =>
        simp only [Bool.false_eq_true, if_false] at q9 ⊢
        exact ende I9 q9
      | true =>
        simp only [if_true] at q9 ⊢
        refine thnF (peu.run _ s9 σ8 H9 _ I9 q9) fun z s10 ⟨yk, H10, I10, r10, qv⟩ => ?_
        refine thnF (pvu.run _ s10 σ8 H10 _ I10 qv) fun z2 s11 ⟨yv, H11, I11, r11, xa, ka, L0, ey, hsq, hD11, hlt, nx⟩ => ?_
        subst ey
        cases r10
        exact setT_ok (X := X.blk s3 H3 scope ce fp) I11 hu hD11 hsq hlt r11 fun s12 I12 => ende I12 nx
  exact codeAny_compStart_dict loop (T.self X.A 0 _ _ _ t4 loop)
/-- as a value -/
theorem pe_dcT {kx vx tg iter : Expr} {ifs : List Expr} {scope : Scope} {own : List (PySem.Str × Nat)} {pos : Pos} {wi : TI} {g : TG} {tt : TT} {te tv : TE} (hc : X.calm = true) (hN : X.N.Nodup) (hu : X.A.units + 1 < cLine) (hi : PI X tg iter wi) (ok : BlkOk X.N X.env.scope scope own)
    (hg : ∀ (s : Shared) (H : Hp) (C : Addr) (cl : List (PySem.Str × Addr)) (fp : List Addr), PG (X.blk s H scope (compEnvC scope cl C X.env) fp) tg g) (ht : ∀ (s : Shared) (H : Hp) (C : Addr) (cl : List (PySem.Str × Addr)) (fp : List Addr), PTs (X.blk s H scope (compEnvC scope cl C X.env) fp) ifs tt)
    (he : ∀ (s : Shared) (H : Hp) (C : Addr) (cl : List (PySem.Str × Addr)) (fp : List Addr), PE (X.blk s H scope (compEnvC scope cl C X.env) fp) kx te) (hv : ∀ (s : Shared) (H : Hp) (C : Addr) (cl : List (PySem.Str × Addr)) (fp : List Addr), PE (X.blk s H scope (compEnvC scope cl C X.env) fp) vx tv) (hs : ∀ x, foldedSetIterable iter X.env x = pure x := by intro _; rfl) :
    PE X (.DictComp kx vx [⟨tg, iter, ifs, 0⟩] scope pos) (tDcT wi g tt te tv (own.map (·.2))) := ⟨fun pins s σ H Q I h => by
  rw [arm_eval_DictComp]
  refine dc_tups hc hN I hi ok hg ht he hv hs hu h fun D C s' m H' I' q hn ⟨f0, f1, f2, f3, f4, f5⟩ => ⟨m, hn, fun h'' sb => ?_⟩
  exact ⟨.ref D, H', I'.turned (t' := s'.toks) (fun b o hb e => (sb.2 b hb).trans e) f0 f1 f3 f4 f5, rfl, q⟩⟩
end
end IT
set_option Elab.async false
set_option linter.all false
set_option maxRecDepth 100000
set_option maxHeartbeats 4000000
namespace DL
open PySem PySem.Spec PyProof.Rows L2
/-! ### dicts whose keys are tuples, owned -/
def kD : L2.Key → D
  | .inl i => .int i
  | .inr x => .str x
section
variable {K : PySem.W.Frag} {M : List Addr} {H : Hp}
theorem Reps.keys : ∀ {ks : List L2.Key} {vs : List V}, Reps K M H vs (ks.map kD) → vs = ks.map kV
  | [], _, .nil => rfl
  | .inl i :: ks, _, .cons r t => by cases r; rw [Reps.keys t]; rfl
  | .inr i :: ks, _, .cons r t => by cases r; rw [Reps.keys t]; rfl
theorem Reps.ofKeys : ∀ ks : List L2.Key, Reps K M H (ks.map kV) (ks.map kD)
  | [] => .nil
  | .inl i :: ks => .cons (.int i) (Reps.ofKeys ks)
  | .inr i :: ks => .cons (.str i) (Reps.ofKeys ks)
theorem Rep.key {v : V} {ks : List L2.Key} (r : Rep K M H v (.tupP (ks.map kD))) : ∃ a, v = .ref a ∧ H a = some (.tup (ks.map kV)) ∧ a ∉ M := by
  cases r with
  | tupP n h q => exact ⟨_, rfl, by rw [h, Reps.keys q], n⟩
theorem Reps.ofGet : ∀ {vs : List V} {ds : List D}, vs.length = ds.length → (∀ (j : Nat) (v : V) (d : D), vs[j]? = some v → ds[j]? = some d → Rep K M H v d) → Reps K M H vs ds
  | [], [], _, _ => .nil
  | [], _ :: _, h, _ => by cases h
  | _ :: _, [], h, _ => by cases h
  | v :: vs, d :: ds, h, q => .cons (q 0 v d rfl rfl) (Reps.ofGet (Nat.succ.inj h) fun j w e h1 h2 => q (j + 1) w e h1 h2)
theorem Reps.valV {k : List L2.Key} {v : V} {d : D} (r : Rep K M H v d) : ∀ {fs : List (List L2.Key × V)} {gs : List (List L2.Key × D)}, fs.map (·.1) = gs.map (·.1) → Reps K M H (fs.map (·.2)) (gs.map (·.2)) → Rep K M H ((L2.valV fs k).getD v) (((gs.find? fun g => decide (g.1 = k)).map (·.2)).getD d)
  | [], [], _, _ => r
  | [], _ :: _, h, _ => by cases h
  | _ :: _, [], h, _ => by cases h
  | f :: fs, g :: gs, h, .cons q t => by
    have h1 : f.1 = g.1 := by injection h
    have h2 : fs.map (·.1) = gs.map (·.1) := by injection h
    by_cases e : g.1 = k
    · rw [valV_pos (h1.trans e), List.find?_cons_of_pos (by simpa using e)]
      exact q
    · rw [valV_neg (fun z => e (h1.symm.trans z)), List.find?_cons_of_neg (by simpa using e)]
      exact Reps.valV r h2 t
/-- the first pair with the key is changed; else a new one stands at the end -/
def putT (gs : List (List L2.Key × D)) (k : List L2.Key) (d : D) : List (List L2.Key × D) :=
  if (gs.any fun g => decide (g.1 = k)) = true then gs.map (fun g => if g.1 = k then (g.1, d) else g) else gs ++ [(k, d)]
theorem any_keys {k : List L2.Key} : ∀ {fs : List (List L2.Key × V)} {gs : List (List L2.Key × D)}, fs.map (·.1) = gs.map (·.1) → (fs.any fun f => decide (f.1 = k)) = gs.any fun g => decide (g.1 = k)
  | [], [], _ => rfl
  | [], _ :: _, h => by cases h
  | _ :: _, [], h => by cases h
  | f :: fs, g :: gs, h => by
    have h1 : f.1 = g.1 := by injection h
    have h2 : fs.map (·.1) = gs.map (·.1) := by injection h
    rw [List.any_cons, List.any_cons, h1, any_keys h2]
theorem Reps.repl {k : List L2.Key} {v : V} {d : D} (r : Rep K M H v d) : ∀ {fs : List (List L2.Key × V)} {gs : List (List L2.Key × D)}, fs.map (·.1) = gs.map (·.1) → Reps K M H (fs.map (·.2)) (gs.map (·.2)) →
    (fs.map fun f => if f.1 = k then (f.1, v) else f).map (·.1) = (gs.map fun g => if g.1 = k then (g.1, d) else g).map (·.1) ∧ Reps K M H ((fs.map fun f => if f.1 = k then (f.1, v) else f).map (·.2)) ((gs.map fun g => if g.1 = k then (g.1, d) else g).map (·.2))
  | [], [], _, _ => ⟨rfl, .nil⟩
  | [], _ :: _, h, _ => by cases h
  | _ :: _, [], h, _ => by cases h
  | f :: fs, g :: gs, h, .cons q t => by
    have h1 : f.1 = g.1 := by injection h
    have h2 : fs.map (·.1) = gs.map (·.1) := by injection h
    obtain ⟨i1, i2⟩ := Reps.repl (k := k) r h2 t
    by_cases e : g.1 = k
    · simp only [List.map_cons, if_pos (h1.trans e), if_pos e]
      exact ⟨by rw [h1, i1], .cons r i2⟩
    · simp only [List.map_cons, if_neg (fun z => e (h1.symm.trans z)), if_neg e]
      exact ⟨by rw [h1, i1], .cons q i2⟩
theorem Reps.stores {fs : List (List L2.Key × V)} {gs : List (List L2.Key × D)} {v : V} {d : D} (t : Reps K M H (fs.map (·.2)) (gs.map (·.2))) (h : fs.map (·.1) = gs.map (·.1)) (r : Rep K M H v d) (k : List L2.Key) :
    (putK fs k v).map (·.1) = (putT gs k d).map (·.1) ∧ Reps K M H ((putK fs k v).map (·.2)) ((putT gs k d).map (·.2)) := by
  unfold putK putT
  rw [any_keys h]
  split
  · exact Reps.repl r h t
  · rw [List.map_append, List.map_append, List.map_append, List.map_append, h]
    exact ⟨rfl, t.append (.cons r .nil)⟩
theorem keysInt (ms : List Int) : (ms.map (Sum.inl : Int → L2.Key)).map kD = ms.map D.int := by rw [List.map_map]; rfl
end
section
variable {X : Cx} {T : List Addr} {B : Bk} {e k v a b c : Expr} {ρ : Rho} {S S1 S' : Sto} {pos p apos cpos : Pos} {y : D} {ks : List L2.Key}
/-- {k: v}, k a tuple -/
theorem de_dispT (hu : X.A.units + 1 < cLine) (hk : ∀ l, DX X T B k ρ (S ++ [(l, .dT [])]) (.tupP (ks.map kD)) (S ++ [(l, .dT [])])) (hv : ∀ l, DX X T B v ρ (S ++ [(l, .dT [])]) y (S ++ [(l, .dT [])])) :
    DE X T B (.Dict [some k] [v] pos) ρ S (fun d S' => ∃ l, d = .ref l ∧ S' = S ++ [(l, .dT [(ks, y)])]) := fun σ H g s =>
  wE_of (IT.pe_disp1T hu pe_w pe_w) fun l hl => by
    have x0 : Ext (mm S) (mm (S ++ [(l, .dT [])])) H (upd H l (.dT [])) := by rw [mm_append]; exact Ext.newO hl
    have g0 : Gd X.K T B (upd H l (.dT [])) (S ++ [(l, .dT [])]) := g.to x0 (g.g.newO hl ⟨[], upd_same, rfl, .nil⟩)
    refine wE_mono (hk l σ _ g0 (s.ext x0)) fun v1 H1 ⟨d1, T1, ⟨e1, e2⟩, r1, g1, x1⟩ => ?_
    subst e1; subst e2
    refine wE_mono (hv l σ H1 g1 (s.ext (x0.trans x1))) fun v2 H2 ⟨d2, T2, ⟨e3, e4⟩, r2, g2, x2⟩ => ?_
    subst e3; subst e4
    obtain ⟨x, ex, hx, nx⟩ := (r1.ext x2).key
    subst ex
    have at0 : (S ++ [(l, D.dT [])])[S.length]? = some (l, .dT []) := by simp
    obtain ⟨fs, hf, ef, _⟩ := g2.g.own (l, .dT []) (List.mem_of_getElem? at0)
    have e0 : fs = [] := by simpa using ef
    subst e0
    have xw : Ext (mm (S ++ [(l, .dT [])])) (mm ((S ++ [(l, D.dT [])]).set S.length (l, .dT [(ks, d2)]))) H2 (upd H2 l (.dT [(ks, v2)])) := Ext.write g2.g at0
    have r3 := r2.ext xw
    have g3 := g2.g.write (o := .dT [(ks, v2)]) (d := .dT [(ks, d2)]) at0 ⟨[(ks, v2)], upd_same, rfl, .cons (by rw [mm_set _ _ _ _ _ at0] at r3; exact r3) .nil⟩
    have es : (S ++ [(l, D.dT [])]).set S.length (l, .dT [(ks, d2)]) = S ++ [(l, .dT [(ks, d2)])] := by simp
    rw [es] at g3 xw
    have xa := (x0.trans (x1.trans x2)).trans xw
    exact ⟨x, ks, rfl, hx, hf, _, _, ⟨l, rfl, rfl⟩, .ref l, g.to xa g3, xa⟩
/-- what stands stays -/
theorem GoodS.keeps {K : PySem.W.Frag} {T : List Addr} {H H' : Hp} (g : GoodS K T H S) (h : ∀ a o, H a = some o → H' a = some o) : GoodS K T H' S ∧ Ext (mm S) (mm S) H H' := by
  have x : Ext (mm S) (mm S) H H' := ⟨fun a o _ q => .inl (h a o q), fun a ha n => absurd ha n⟩
  exact ⟨⟨fun p hp => (g.own p hp).ext x fun o q => h _ o q, g.nd, fun P hP => by obtain ⟨ps, h1, h2⟩ := g.tab P hP; exact ⟨ps, h _ _ h1, h2⟩⟩, x⟩
/-- list(d.items()) of an owned dict of tuple keys -/
theorem dx_listItemsT {i : Nat} {l : Addr} {gs : List (List L2.Key × D)} (hc : X.calm = true) (hi : S1[i]? = some (l, .dT gs)) (he : DX X T B e ρ S (.ref l) S1) (hg : Gl X "list") (hm : X.mg "list" = none) (hv : bootBuiltins "list" = some (.type "list")) (hbase : attributeBase e "items" X.env (eval e X.env) = eval e X.env := by rfl) (hline : (apos.endLine == cpos.line) = true := by rfl)
    (hs : starEach [.Call (.Attribute e "items" apos) [] [] cpos] X.env = (false, eval (.Call (.Attribute e "items" apos) [] [] cpos) X.env) :: starEach [] X.env := by rfl) :
    DX X T B (.Call (.Name "list" p) [.Call (.Attribute e "items" apos) [] [] cpos] [] pos) ρ S (.lst (gs.map fun g => .tup [.tupP (g.1.map kD), g.2])) S1 := fun σ H g s =>
  wE_of (IT.pe_listItemsT hc pe_w hg hm hv hbase hline hs) (wE_mono (he σ H g s) fun v1 H1 ⟨d1, T1, ⟨e1, e2⟩, r1, g1, x1⟩ => by
    subst e1; subst e2; cases r1
    obtain ⟨fs, hf, ef, rf⟩ := g1.g.own (l, .dT gs) (List.mem_of_getElem? hi)
    refine ⟨l, fs, rfl, .inl hf, fun H' p' ts qs k1 k2 k3 k4 k5 k6 k7 k8 k9 k10 => ?_⟩
    obtain ⟨g2, x2⟩ := g1.g.keeps k1
    have no : ∀ t, H1 t = none → t ∉ mm T1 := fun t ht z => by
      obtain ⟨o, h, _⟩ := g1.g.memM z
      rw [ht] at h; cases h
    have lf : fs.length = gs.length := by have := congrArg List.length ef; simpa using this
    refine ⟨_, _, ⟨rfl, rfl⟩, .lst (no p' k3) (.inl k7) (Reps.ofGet (by simp [k9, lf]) fun j v d h1 h2 => ?_), g1.to x2 g2, x1.trans x2⟩
    rw [List.getElem?_map] at h1 h2
    obtain ⟨t, ht, rfl⟩ := Option.map_eq_some_iff.mp h1
    obtain ⟨gq, hgq, rfl⟩ := Option.map_eq_some_iff.mp h2
    have hj : j < qs.length := by have := (List.getElem?_eq_some_iff.mp ht).1; omega
    obtain ⟨kk, vv, h5, h6, h7⟩ := k10 j t qs[j] ht (List.getElem?_eq_getElem hj)
    have ek : kk = gq.1 := by
      have q := congrArg (fun l : List (List L2.Key) => l[j]?) ef
      simp only [List.getElem?_map, h5, hgq, Option.map_some] at q
      exact Option.some.inj q
    subst ek
    obtain ⟨dd, hd1, hd2⟩ := rf.getV (i := j) (v := vv) (by rw [List.getElem?_map, h5]; rfl)
    rw [List.getElem?_map, hgq] at hd1
    cases hd1
    have nq : qs[j] ∉ mm T1 := g1.g.notT (.inl h6)
    exact .tup (no t (k4 t (List.mem_of_getElem? ht))) (.inl h7) (.cons (.tupP nq (k1 _ _ h6) (Reps.ofKeys _)) (.cons (hd2.ext x2) .nil)))
/-- d.get(key, x) -/
theorem dx_getT {i : Nat} {l : Addr} {gs : List (List L2.Key × D)} {z : D} {S2 S3 : Sto} (hu : X.A.units + 1 < cLine) (ha : DX X T B a ρ S (.ref l) S1) (hb : DX X T B b ρ S1 (.tupP (ks.map kD)) S2) (hx : DX X T B c ρ S2 z S3) (h1 : ∃ g0, (l, D.dT g0) ∈ S1) (hi : S3[i]? = some (l, .dT gs))
    (hz : y = ((gs.find? fun g => decide (g.1 = ks)).map (·.2)).getD z) (m : M2 X a "get" apos b c cpos) : DX X T B (.Call (.Attribute a "get" apos) [b, c] [] cpos) ρ S y S3 := fun σ H g s =>
  wE_of (pe_dget2 hu pe_w pe_w pe_w m) (wE_mono (ha σ H g s) fun v1 H1 ⟨d1, T1, ⟨e1, e2⟩, r1, g1, x1⟩ => by
    subst e1; subst e2; cases r1
    obtain ⟨g0, hm⟩ := h1
    obtain ⟨f0, q0, _, _⟩ := g1.g.own _ hm
    refine ⟨l, rfl, .inr ⟨f0, .inl q0⟩, wE_mono (hb σ H1 g1 (s.ext x1)) fun v2 H2 ⟨d2, T2, ⟨e3, e4⟩, r2, g2, x2⟩ => ?_⟩
    subst e3; subst e4
    refine wE_mono (hx σ H2 g2 (s.ext (x1.trans x2))) fun v3 H3 ⟨d3, T3, ⟨e5, e6⟩, r3, g3, x3⟩ => ?_
    subst e5; subst e6
    obtain ⟨x, ex, hk, _⟩ := (r2.ext x3).key
    subst ex
    obtain ⟨fs, hf, ef, rf⟩ := g3.g.own (l, .dT gs) (List.mem_of_getElem? hi)
    refine ⟨_, DGet.t hf hk, _, _, ⟨rfl, rfl⟩, ?_, g3, (x1.trans x2).trans x3⟩
    rw [hz]
    exact Reps.valV r3 ef rf)
/-- d[key] = x -/
theorem qs_putT {i : Nat} {l : Addr} {gs : List (List L2.Key × D)} {S2 S3 : Sto} {P : DEnds} {pos' : Pos} (hu : X.A.units + 1 < cLine) (hv : DX X T B v ρ S y S1) (ha : DX X T B a ρ S1 (.ref l) S2) (hb : DX X T B b ρ S2 (.tupP (ks.map kD)) S3) (hi : S3[i]? = some (l, .dT gs)) (hz : gs.length < 100000)
    (hs : swapsWith v (some (.Subscript a b pos')) pos.line X.env = pure false) (k : P.nx ρ (S3.set i (l, .dT (putT gs ks y)))) : DS X T B (.Assign [.Subscript a b pos'] v pos) ρ S P := fun σ H g s =>
  wS_of (ps_dput hu pe_w pe_w pe_w hs) (wE_mono (hv σ H g s) fun v1 H1 ⟨d1, T1, ⟨e1, e2⟩, r1, g1, x1⟩ => by
    subst e1; subst e2
    refine wE_mono (ha σ H1 g1 (s.ext x1)) fun v2 H2 ⟨d2, T2, ⟨e3, e4⟩, r2, g2, x2⟩ => ?_
    subst e3; subst e4; cases r2
    refine wE_mono (hb σ H2 g2 (s.ext (x1.trans x2))) fun v3 H3 ⟨d3, T3, ⟨e5, e6⟩, r3, g3, x3⟩ => ?_
    subst e5; subst e6
    obtain ⟨x, ex, hk, _⟩ := r3.key
    subst ex
    obtain ⟨fs, hf, ef, rf⟩ := g3.g.own (l, .dT gs) (List.mem_of_getElem? hi)
    have lf : fs.length = gs.length := by have := congrArg List.length ef; simpa using this
    have xw : Ext (mm T3) (mm (T3.set i (l, D.dT (putT gs ks d1)))) H3 (upd H3 l (.dT (putK fs ks v1))) := Ext.write g3.g hi
    have xv := xw
    rw [mm_set _ _ _ _ _ hi] at xv
    have q1 := ((r1.ext x2).ext x3).ext xv
    have q2 := (rf.ext xv).stores ef q1 ks
    have g4 := g3.g.write (o := .dT (putK fs ks v1)) (d := .dT (putT gs ks d1)) hi ⟨_, upd_same, q2.1, q2.2⟩
    have xa := ((x1.trans x2).trans x3).trans xw
    exact ⟨l, _, rfl, DPut.t hf hk (by rw [lf]; exact Nat.lt_trans hz (by decide)), _, _, k, g.to xa g4, s.ext xa⟩)
end
end DL
set_option Elab.async false
set_option linter.all false
set_option maxRecDepth 100000
set_option maxHeartbeats 4000000
namespace DL
open PySem PySem.Spec PyProof.Rows L2
/-! ### an owned dict is locked while it is walked; after that it is no longer owned -/
section
variable {K : PySem.W.Frag} {T : List Addr} {M : List Addr} {H : Hp} {l : Addr} {od : Obj} {fs : List (List L2.Key × V)} {S : Sto}
theorem Rd.unfrz {a : Addr} {u : HO} (hl : H l = some (.frz od (.dT fs))) (h : Rd H a u) (hu : ∀ o y, u ≠ .frz o y) : Rd (upd H l (.dT fs)) a u := by
  by_cases e : a = l
  · subst e
    rcases h with h | ⟨b, h⟩
    · rw [hl] at h; exact absurd (Option.some.inj h).symm (hu _ _)
    · rw [hl] at h
      injection h with h
      injection h with h1 h2
      rw [← h2]
      exact .inl upd_same
  · rcases h with h | ⟨b, h⟩
    · exact .inl ((upd_ne e).trans h)
    · exact .inr ⟨b, (upd_ne e).trans h⟩
mutual
theorem Rep.unfrz (hl : H l = some (.frz od (.dT fs))) : ∀ {v : V} {d : D}, Rep K M H v d → Rep K M (upd H l (.dT fs)) v d
  | _, _, .non => .non
  | _, _, .bl b => .bl b
  | _, _, .int i => .int i
  | _, _, .str x => .str x
  | _, _, .ty n => .ty n
  | _, _, .ref a => .ref a
  | _, _, .tupK h r => .tupK h (Reps.unfrz hl r)
  | _, _, .tup ha h r => .tup ha (Rd.unfrz hl h fun _ _ z => by cases z) (Reps.unfrz hl r)
  | _, _, .tupP ha h r => .tupP ha ((upd_ne fun z => by rw [z, hl] at h; cases h).trans h) (Reps.unfrz hl r)
  | _, _, .tupF ha h n r => .tupF ha ((upd_ne fun z => by rw [z, hl] at h; cases h).trans h) n (Reps.unfrz hl r)
  | _, _, .lst ha h r => .lst ha (Rd.unfrz hl h fun _ _ z => by cases z) (Reps.unfrz hl r)
  | _, _, .lstQ h r => .lstQ (h.imp_right fun ⟨ha, h⟩ => ⟨ha, Rd.unfrz hl h fun _ _ z => by cases z⟩) (Reps.unfrz hl r)
  | _, _, .obj ha h e r => .obj ha ((upd_ne fun z => by rw [z, hl] at h; cases h).trans h) e (Reps.unfrz hl r)
  | _, _, .dK ha h e r => .dK ha (Rd.unfrz hl h fun _ _ z => by cases z) e (Reps.unfrz hl r)
  | _, _, .dT ha h e r => .dT ha (Rd.unfrz hl h fun _ _ z => by cases z) e (Reps.unfrz hl r)
  | _, _, .dKF ha h e r => .dKF ha ((upd_ne fun z => by rw [z, hl] at h; cases h).trans h) e (Reps.unfrz hl r)
theorem Reps.unfrz (hl : H l = some (.frz od (.dT fs))) : ∀ {vs : List V} {ds : List D}, Reps K M H vs ds → Reps K M (upd H l (.dT fs)) vs ds
  | _, _, .nil => .nil
  | _, _, .cons r t => .cons (Rep.unfrz hl r) (Reps.unfrz hl t)
end
theorem RepAt.unfrz {a : Addr} {d : D} (hl : H l = some (.frz od (.dT fs))) (r : RepAt K M H a d) : RepAt K M (upd H l (.dT fs)) a d := by
  have ne : ∀ {u : HO}, H a = some u → (∀ o y, u ≠ .frz o y) → upd H l (.dT fs) a = some u := fun {u} h hu => (upd_ne fun z => by rw [z, hl] at h; exact hu _ _ (Option.some.inj h).symm).trans h
  cases d with
  | lst ds => obtain ⟨vs, q, r⟩ := r; exact ⟨vs, ne q (fun _ _ z => by cases z), r.unfrz hl⟩
  | obj C gs => obtain ⟨dx, fs, q, z, r⟩ := r; exact ⟨dx, fs, ne q (fun _ _ z => by cases z), z, r.unfrz hl⟩
  | dK gs => obtain ⟨fs, q, z, r⟩ := r; exact ⟨fs, ne q (fun _ _ z => by cases z), z, r.unfrz hl⟩
  | dT gs => obtain ⟨fs, q, z, r⟩ := r; exact ⟨fs, ne q (fun _ _ z => by cases z), z, r.unfrz hl⟩
  | _ => exact r.elim
theorem GoodS.unfrz (g : GoodS K T H S) (hl : H l = some (.frz od (.dT fs))) : GoodS K T (upd H l (.dT fs)) S := ⟨fun p hp => (g.own p hp).unfrz hl, g.nd, fun P hP => by
  obtain ⟨ps, h1, h2⟩ := g.tab P hP
  exact ⟨ps, (upd_ne fun z => by rw [z, hl] at h1; cases h1).trans h1, h2⟩⟩
/-- at l stands a locked dict worth gs -/
def FrzT (K : PySem.W.Frag) (l : Addr) (gs : List (List L2.Key × D)) (H : Hp) (S : Sto) : Prop :=
  l ∉ mm S ∧ ∃ od fs, H l = some (.frz od (.dT fs)) ∧ fs.map (·.1) = gs.map (·.1) ∧ Reps K (mm S) H (fs.map (·.2)) (gs.map (·.2))
theorem FrzT.ext {gs : List (List L2.Key × D)} {H' : Hp} {S' : Sto} (f : FrzT K l gs H S) (e : Ext (mm S) (mm S') H H') : FrzT K l gs H' S' := by
  obtain ⟨n, od, fs, h, q, r⟩ := f
  exact ⟨e.nmem n h, od, fs, e.kp n h (fun _ z => by cases z), q, r.ext e⟩
def Bk.frz (B : Bk) (K : PySem.W.Frag) (l : Addr) (gs : List (List L2.Key × D)) : Bk := ⟨fun H S => B.R H S ∧ FrzT K l gs H S, fun _ _ _ _ r e => ⟨B.mono _ _ _ _ r.1 e, r.2.ext e⟩⟩
end
section
variable {X : Cx} {T : List Addr} {B : Bk} {e tg : Expr} {ρ : Rho} {S S1 : Sto} {pos apos cpos : Pos} {l : Addr} {gs : List (List L2.Key × D)} {P : D → Sto → Prop}
theorem de_lock (h : DE X T (B.frz X.K l gs) e ρ S P) : DE X T B e ρ (S ++ [(l, .dT gs)]) P := fun σ H g s => by
  have hm : (l, D.dT gs) ∈ S ++ [(l, D.dT gs)] := mem_last
  obtain ⟨fs, hf, ef, rf⟩ := g.g.own _ hm
  have sub : S.Sublist (S ++ [(l, D.dT gs)]) := List.sublist_append_left _ _
  have inM : l ∈ mm (S ++ [(l, D.dT gs)]) := by rw [mm_append]; simp
  have nl : l ∉ mm S := fun z => by
    have nd := g.g.nd
    rw [mm_append] at nd
    exact (List.nodup_append.mp nd).2.2 l z l (by show l ∈ [l]; simp) rfl
  refine wE_of (pe_lock pe_w) ⟨l, .dT fs, hf, trivial, fun od => ?_⟩
  have x0 : Ext (mm (S ++ [(l, D.dT gs)])) (mm S) H (upd H l (.frz od (.dT fs))) := ⟨fun a o ha q => .inl ((upd_ne fun z => ha (by rw [z]; exact inM)).trans q), fun a h n => absurd (mm_sub sub a h) n⟩
  have ne : ∀ p ∈ S, p.1 ≠ l := fun p hp z => nl (by rw [← z]; exact List.mem_map.mpr ⟨p, hp, rfl⟩)
  have g0 : GoodS X.K T (upd H l (.frz od (.dT fs))) S := ⟨fun p hp => (g.g.own p (sub.subset hp)).ext x0 fun o q => (upd_ne (ne p hp)).trans q, (g.g.less sub).nd, fun P hP => by
    obtain ⟨ps, h1, h2⟩ := g.g.tab P hP
    exact ⟨ps, (upd_ne fun z => by rw [z, hf] at h1; cases h1).trans h1, h2⟩⟩
  have fr : FrzT X.K l gs (upd H l (.frz od (.dT fs))) S := ⟨nl, od, fs, upd_same, ef, rf.ext x0⟩
  refine wE_mono (h σ _ ⟨g0, B.mono _ _ _ _ g.r x0, fr⟩ (s.ext x0)) fun v H' ⟨d, S', pd, r, g', x'⟩ => ?_
  have hl : H' l = some (.frz od (.dT fs)) := x'.kp nl upd_same (fun _ z => by cases z)
  refine ⟨hl, d, S', pd, r.unfrz hl, ?_, ?_⟩
  all_goals
    have xa : Ext (mm (S ++ [(l, D.dT gs)])) (mm S') H (upd H' l (.dT fs)) := ⟨fun a o ha q => by
      have na : a ≠ l := fun z => ha (by rw [z]; exact inM)
      rw [upd_ne na]
      exact (x0.trans x').keep a o ha q, (x0.trans x').new⟩
    first | exact xa | exact g.to xa (g'.g.unfrz hl)
/-- d.items() of a locked dict -/
theorem di_itemsT {elts : List Expr} {kk : Nat} {tpos : Pos} (hR : ∀ H S, B.R H S → FrzT X.K l gs H S) (he : DX X T B e ρ S (.ref l) S1) (hbase : attributeBase e "items" X.env (eval e X.env) = eval e X.env := by rfl) (hline : (apos.endLine == cpos.line) = true := by rfl) :
    DI X T B (.Tuple elts kk tpos) (.Call (.Attribute e "items" apos) [] [] cpos) ρ S (gs.map fun g => .tup [.tupP (g.1.map kD), g.2]) (fun _ => True) S1 := fun σ H g s =>
  wI_of (IT.pi_itemsT pe_w hbase hline) (wE_mono (he σ H g s) fun v H1 ⟨d1, T1, ⟨e1, e2⟩, r1, g1, x1⟩ => by
    subst e1; subst e2; cases r1
    obtain ⟨nl, od, fs, hl, ef, rf⟩ := hR _ _ g1.r
    have lf : fs.length = gs.length := by have := congrArg List.length ef; simpa using this
    refine ⟨l, od, fs, rfl, hl, g1, x1, fun i H2 S2 _ x2 g2 => ?_⟩
    have h2 := x2.kp nl hl (fun _ z => by cases z)
    have r2 := rf.ext x2
    refine ⟨fun hi => ?_, fun hi => ⟨h2, by rw [lf, hi, List.length_map]; exact Nat.le_refl _⟩⟩
    rw [List.length_map] at hi
    refine ⟨⟨h2, by omega⟩, fun x H3 hy => ?_⟩
    obtain ⟨t, q, k, w, hk, hq, rfl, ht, rfl⟩ := hy
    have ek : k = gs[i].1 := by
      have q := congrArg (fun l : List (List L2.Key) => l[i]?) ef
      simp only [List.getElem?_map, hk, List.getElem?_eq_getElem hi, Option.map_some] at q
      exact Option.some.inj q
    subst ek
    obtain ⟨dd, hd1, hd2⟩ := r2.getV (i := i) (v := w) (by rw [List.getElem?_map, hk]; rfl)
    rw [List.getElem?_map, List.getElem?_eq_getElem hi] at hd1
    cases hd1
    have x3 : Ext (mm S2) (mm S2) H2 (upd H2 t (.tup [.ref q, w])) := Ext.new1 ht
    have nt : t ∉ mm S2 := fun z => by
      obtain ⟨o, h, _⟩ := g2.memM z
      rw [ht] at h; cases h
    have nq : q ∉ mm S2 := g2.notT (.inl hq)
    have tq : upd H2 t (.tup [.ref q, w]) q = some (.tup (gs[i].1.map kV)) := (upd_ne fun z => by rw [z, ht] at hq; cases hq).trans hq
    exact ⟨_, by rw [List.getElem?_map, List.getElem?_eq_getElem hi]; rfl, .tup nt (.inl upd_same) (.cons (.tupP nq tq (Reps.ofKeys _)) (.cons (hd2.ext x3) .nil)), x3, g2.new1 ht⟩)
end
end DL
set_option Elab.async false
set_option linter.all false
set_option maxRecDepth 100000
set_option maxHeartbeats 4000000
namespace DL
open PySem PySem.Spec PyProof.Rows L2
/-! ### a dict comprehension with tuple keys -/
/-- the dict behind the first i turns -/
def dcAcc (bs : Nat → Bool) (key : Nat → List L2.Key) (val : Nat → D) : Nat → List (List L2.Key × D)
  | 0 => []
  | i + 1 => if bs i = true then putT (dcAcc bs key val i) (key i) (val i) else dcAcc bs key val i
theorem putT_length (gs : List (List L2.Key × D)) (k : List L2.Key) (d : D) : (putT gs k d).length ≤ gs.length + 1 := by
  unfold putT
  split
  · rw [List.length_map]; omega
  · rw [List.length_append]; simp
theorem dcAcc_length (bs : Nat → Bool) (key : Nat → List L2.Key) (val : Nat → D) : ∀ i, (dcAcc bs key val i).length ≤ i
  | 0 => Nat.le_refl _
  | i + 1 => by
    have h := dcAcc_length bs key val i
    unfold dcAcc
    split
    · have := putT_length (dcAcc bs key val i) (key i) (val i); omega
    · omega
section
variable {X : Cx} {T : List Addr} {B : Bk} {kx vx tg iter : Expr} {ifs : List Expr} {scope : Scope} {own : List (Str × Nat)} {ρ : Rho} {S S1 : Sto} {xs : List D} {Vw0 : Sto → Prop} {pos : Pos}
structure DcOk (X : Cx) (T : List Addr) (B : Bk) (kx vx tg : Expr) (ifs : List Expr) (scope : Scope) (vs : List Nat) (ρ : Rho) (xs : List D) (Vw0 : Sto → Prop) (S1 : Sto) (bs : Nat → Bool) (key : Nat → List L2.Key) (val : Nat → D) : Prop where
  hs : ∀ (i : Nat) x, xs[i]? = some x → ∃ ρ1 ix, (∀ j ∈ ix, j ∈ vs) ∧ (∀ s H C cl fp, DG (Cx.lc X scope s H C cl fp) tg x (wipeR ρ vs) ρ1 ix) ∧
    (∀ s H C cl fp B' L acc, B.Le B' → DTs (Cx.lc X scope s H C cl fp) T B' ifs ρ1 (S1 ++ [(L, .dT acc)]) (bs i) (S1 ++ [(L, .dT acc)])) ∧
    (bs i = true → ∀ s H C cl fp B' L acc, B.Le B' → DX (Cx.lc X scope s H C cl fp) T B' kx ρ1 (S1 ++ [(L, .dT acc)]) (.tupP ((key i).map kD)) (S1 ++ [(L, .dT acc)])) ∧
    (bs i = true → ∀ s H C cl fp B' L acc, B.Le B' → DX (Cx.lc X scope s H C cl fp) T B' vx ρ1 (S1 ++ [(L, .dT acc)]) (val i) (S1 ++ [(L, .dT acc)]))
  hV : ∀ L acc, Vw0 (S1 ++ [(L, .dT acc)])
theorem dc_D {bs : Nat → Bool} {key : Nat → List L2.Key} {val : Nat → D} (hi : DI X T B tg iter ρ S xs Vw0 S1) (hz : xs.length < 100000)
    (O : DcOk X T B kx vx tg ifs scope (own.map (·.2)) ρ xs Vw0 S1 bs key val) (σ : L2.St) (H : Hp) (g : Gd X.K T B H S) (sl : Slots X.K (mm S) H σ ρ) :
    IT.tDcT (wI X tg iter) (gU X scope tg) (tU X scope ifs) (eU X scope kx) (eU X scope vx) (own.map (·.2)) σ H (Pt X T B H S fun d S' => ∃ l, d = .ref l ∧ S' = S1 ++ [(l, .dT (dcAcc bs key val xs.length))]) :=
  (wI_mono (hi σ H g sl) fun J H1 ⟨g1, x1, Y⟩ L hL => by
    have x2 : Ext (mm S1) (mm (S1 ++ [(L, .dT [])])) H1 (upd H1 L (.dT [])) := by rw [mm_append]; exact Ext.newO hL
    have g2 : Gd X.K T B (upd H1 L (.dT [])) (S1 ++ [(L, .dT [])]) := g1.to x2 (g1.g.newO hL ⟨[], upd_same, rfl, .nil⟩)
    refine ⟨fun i m H' => m = xs.length - i ∧ i ≤ xs.length ∧ Gd X.K T (B.since H1 S1) H' (S1 ++ [(L, .dT (dcAcc bs key val i))]), ⟨_, rfl, Nat.zero_le _, g2.since x2⟩, ?_⟩
    rintro i m H' ⟨rfl, hil, g'⟩
    have slw : Slots X.K (mm (S1 ++ [(L, .dT (dcAcc bs key val i))])) H' (L2.wipe σ (own.map (·.2))) (wipeR ρ (own.map (·.2))) := ((sl.ext x1).ext g'.r.2).wipe _
    obtain ⟨y1, y2⟩ := Y i H' _ (O.hV L _) g'.r.2 g'.g
    by_cases hlt : i < xs.length
    · obtain ⟨go, st⟩ := y1 hlt
      refine .inr ⟨go, fun H' => Gd X.K T (B.since H1 S1) H' (S1 ++ [(L, .dT (dcAcc bs key val (i + 1)))]), fun H2 q => ⟨xs.length - (i + 1), by omega, rfl, hlt, q⟩, fun x H3 hy s H C cl fp => ?_⟩
      obtain ⟨d, hd', r, x3, g3⟩ := st x H3 hy
      have g3' := g'.to x3 g3
      obtain ⟨ρ1, ix, hix, hg0, ht0, hk0, hv0⟩ := O.hs i d hd'
      refine wG.mk fun pins st u I0 rv => thn ((hg0 s H C cl fp _ _ H3 x (slw.ext x3) r).run pins st u I0 rv) fun _ s' ⟨σ4, H4, I4, e4, s4, hj⟩ => ⟨σ4, H4, I4, ?_⟩
      subst e4
      have hl4 : σ4.length = (L2.wipe σ (own.map (·.2))).length := by rw [I4.len, I0.len]
      refine ⟨wipe_eq (by rw [hl4, wipe_length]) hj hix, fun s H C cl fp => ?_⟩
      obtain ⟨t, pt, q⟩ := ht0 s H C cl fp _ L _ (B.since_le H1 S1) σ4 _ g3' s4
      refine ⟨fun σ H Q => ∃ Q', t σ H Q' ∧ ∀ b H', Q' b H' → Q b H', ⟨fun pins s σ H Q I ⟨Q', q, m⟩ => thn (pt.run pins s σ H Q' I q) fun _ _ ⟨H', I', q'⟩ => ⟨H', I', m _ _ q'⟩⟩, _, q, fun b H5 ⟨e5, g5, x5⟩ => ?_⟩
      subst e5
      cases hb : bs i with
      | false =>
        rw [if_neg Bool.false_ne_true]
        have e : dcAcc bs key val (i + 1) = dcAcc bs key val i := by rw [dcAcc, hb, if_neg Bool.false_ne_true]
        rw [e]
        exact g5
      | true =>
        rw [if_pos rfl]
        have e : dcAcc bs key val (i + 1) = putT (dcAcc bs key val i) (key i) (val i) := by rw [dcAcc, hb, if_pos rfl]
        intro s H C cl fp
        refine wE_mono (hk0 hb s H C cl fp _ L _ (B.since_le H1 S1) σ4 H5 g5 (s4.ext x5)) fun v H6 ⟨d6, S6, ⟨e6, e7⟩, r6, g6, x6⟩ => ?_
        subst e6; subst e7
        intro s H C cl fp
        refine wE_mono (hv0 hb s H C cl fp _ L _ (B.since_le H1 S1) σ4 H6 g6 (s4.ext (x5.trans x6))) fun v7 H7 ⟨d7, S7, ⟨e8, e9⟩, r7, g7, x7⟩ => ?_
        subst e8; subst e9
        obtain ⟨xa, ex, hxa, _⟩ := (r6.ext x7).key
        have hk : (S1 ++ [(L, D.dT (dcAcc bs key val i))])[S1.length]? = some (L, .dT (dcAcc bs key val i)) := at_last
        obtain ⟨fs, hf, ef, rf⟩ := g7.g.own _ (List.mem_of_getElem? hk)
        have lf : fs.length = (dcAcc bs key val i).length := by have := congrArg List.length ef; simpa using this
        have la := dcAcc_length bs key val i
        refine ⟨xa, key i, fs, ex, hxa, hf, by rw [lf]; exact Nat.lt_of_lt_of_le (Nat.lt_of_le_of_lt la (Nat.lt_trans hlt hz)) (by decide), ?_⟩
        rw [e]
        have xw : Ext (mm (S1 ++ [(L, D.dT (dcAcc bs key val i))])) (mm ((S1 ++ [(L, D.dT (dcAcc bs key val i))]).set S1.length (L, D.dT (putT (dcAcc bs key val i) (key i) (val i))))) H7 (upd H7 L (.dT (putK fs (key i) v7))) := Ext.write g7.g hk
        have xv := xw
        rw [mm_set _ _ _ _ _ hk] at xv
        have q2 := (rf.ext xv).stores ef (r7.ext xv) (key i)
        have gw := g7.g.write (o := .dT (putK fs (key i) v7)) (d := .dT (putT (dcAcc bs key val i) (key i) (val i))) hk ⟨_, upd_same, q2.1, q2.2⟩
        rw [set_last] at gw xw
        exact g7.to xw gw
    · have e : i = xs.length := by omega
      subst e
      exact .inl ⟨y2 rfl, .ref L, _, ⟨L, rfl, rfl⟩, .ref L, g'.le (B.since_le H1 S1), x1.trans g'.r.2⟩)
theorem de_dcT {bs : Nat → Bool} {key : Nat → List L2.Key} {val : Nat → D} (hc : X.calm = true) (hN : X.N.Nodup) (hu : X.A.units + 1 < cLine) (hi : DI X T B tg iter ρ S xs Vw0 S1) (ok : BlkOk X.N X.env.scope scope own) (hz : xs.length < 100000)
    (O : DcOk X T B kx vx tg ifs scope (own.map (·.2)) ρ xs Vw0 S1 bs key val) (hs : ∀ x, foldedSetIterable iter X.env x = pure x := by intro _; rfl) :
    DE X T B (.DictComp kx vx [⟨tg, iter, ifs, 0⟩] scope pos) ρ S (fun d S' => ∃ l, d = .ref l ∧ S' = S1 ++ [(l, .dT (dcAcc bs key val xs.length))]) := fun σ H g sl =>
  wE_of (IT.pe_dcT (own := own) hc hN hu pi_w ok pg_U pts_U pe_U pe_U hs) (dc_D hi hz O σ H g sl)
end
end DL
set_option Elab.async false
set_option linter.all false
set_option maxRecDepth 100000
set_option maxHeartbeats 4000000
namespace DL
open PySem PySem.Spec PyProof.Rows L2
/-! ### dicts from int tuples to ints, in plain -/
abbrev ID := List (List Int × Int)
def kI (k : List Int) : List L2.Key := k.map Sum.inl
def idD (ps : ID) : List (List L2.Key × D) := ps.map fun p => (kI p.1, D.int p.2)
theorem kI_inj : ∀ {k m : List Int}, kI k = kI m → k = m
  | [], [], _ => rfl
  | [], _ :: _, h => by cases h
  | _ :: _, [], h => by cases h
  | a :: k, b :: m, h => by
    have h1 : (Sum.inl a : L2.Key) = Sum.inl b := by injection h
    have h2 : kI k = kI m := by injection h
    rw [Sum.inl.inj h1, kI_inj h2]
theorem kI_iff {k m : List Int} : kI k = kI m ↔ k = m := ⟨kI_inj, fun h => by rw [h]⟩
def putI (ps : ID) (k : List Int) (v : Int) : ID :=
  if (ps.any fun p => decide (p.1 = k)) = true then ps.map (fun p => if p.1 = k then (p.1, v) else p) else ps ++ [(k, v)]
def getI (ps : ID) (k : List Int) : Int := ((ps.find? fun p => decide (p.1 = k)).map (·.2)).getD 0
theorem idD_any (ps : ID) (k : List Int) : ((idD ps).any fun g => decide (g.1 = kI k)) = ps.any fun p => decide (p.1 = k) := by
  unfold idD
  rw [List.any_map]
  congr 1
  funext p
  exact decide_eq_decide.mpr kI_iff
theorem put_idD (ps : ID) (k : List Int) (v : Int) : putT (idD ps) (kI k) (.int v) = idD (putI ps k v) := by
  unfold putT putI
  rw [idD_any]
  split
  · unfold idD
    rw [List.map_map, List.map_map]
    congr 1
    funext p
    by_cases e : p.1 = k
    · simp [e]
    · have : ¬ kI p.1 = kI k := fun z => e (kI_inj z)
      simp [e, this]
  · unfold idD
    rw [List.map_append]; rfl
theorem get_idD (ps : ID) (k : List Int) : (((idD ps).find? fun g => decide (g.1 = kI k)).map (·.2)).getD (.int 0) = .int (getI ps k) := by
  unfold getI idD
  induction ps with
  | nil => rfl
  | cons p ps ih =>
    rw [List.map_cons]
    by_cases e : p.1 = k
    · rw [List.find?_cons_of_pos (by simp [e]), List.find?_cons_of_pos (by simp [e])]; rfl
    · rw [List.find?_cons_of_neg (by simpa using fun z => e (kI_inj z)), List.find?_cons_of_neg (by simpa using e)]
      exact ih
theorem putI_len (ps : ID) (k : List Int) (v : Int) : (putI ps k v).length ≤ ps.length + 1 := by
  unfold putI
  split
  · rw [List.length_map]; omega
  · rw [List.length_append]; simp
theorem putI_keys (ps : ID) (k : List Int) (v : Int) : ((putI ps k v).map (·.1)) = if k ∈ ps.map (·.1) then ps.map (·.1) else ps.map (·.1) ++ [k] := by
  unfold putI
  by_cases h : k ∈ ps.map (·.1)
  · rw [if_pos h, if_pos (by
      obtain ⟨p, hp, e⟩ := List.mem_map.mp h
      exact List.any_eq_true.mpr ⟨p, hp, by simpa using e⟩), List.map_map]
    congr 1
    funext p
    by_cases e : p.1 = k <;> simp [e]
  · rw [if_neg h, if_neg (fun z => by
      obtain ⟨p, hp, e⟩ := List.any_eq_true.mp z
      exact h (List.mem_map.mpr ⟨p, hp, by simpa using e⟩)), List.map_append]
    rfl
theorem putI_nd {ps : ID} (h : (ps.map (·.1)).Nodup) (k : List Int) (v : Int) : ((putI ps k v).map (·.1)).Nodup := by
  rw [putI_keys]
  split
  · exact h
  · rename_i q
    exact List.nodup_append.mpr ⟨h, by simp, fun a ha b hb => by
      rw [List.mem_singleton.mp hb]
      exact fun z => q (by rw [← z]; exact ha)⟩
theorem putI_new {ps : ID} {k : List Int} (h : k ∉ ps.map (·.1)) (v : Int) : putI ps k v = ps ++ [(k, v)] := by
  unfold putI
  rw [if_neg]
  intro z
  obtain ⟨p, hp, e⟩ := List.any_eq_true.mp z
  exact h (List.mem_map.mpr ⟨p, hp, by simpa using e⟩)
/-- taken over with a filter: the keys are all different -/
theorem dcAcc_filter {ps : ID} (nd : (ps.map (·.1)).Nodup) (f : List Int × Int → Bool) {bs : Nat → Bool} {key : Nat → List L2.Key} {val : Nat → D}
    (hb : ∀ i (h : i < ps.length), bs i = f ps[i]) (hk : ∀ i (h : i < ps.length), key i = kI ps[i].1) (hv : ∀ i (h : i < ps.length), val i = .int ps[i].2) :
    ∀ n, n ≤ ps.length → dcAcc bs key val n = idD ((ps.take n).filter f)
  | 0, _ => by simp [dcAcc, idD]
  | n + 1, h => by
    have ih := dcAcc_filter nd f hb hk hv n (by omega)
    have hn : n < ps.length := h
    have et : ps.take (n + 1) = ps.take n ++ [ps[n]] := by simp
    rw [dcAcc, ih, et, List.filter_append, hb n hn]
    cases hf : f ps[n] with
    | false => simp [hf]
    | true =>
      rw [if_pos rfl, hk n hn, hv n hn, put_idD]
      congr 1
      rw [putI_new]
      · simp [hf]
      · intro z
        obtain ⟨p, hp, e⟩ := List.mem_map.mp z
        have hp' := (List.mem_filter.mp hp).1
        obtain ⟨j, hj, ej⟩ := List.mem_iff_getElem.mp hp'
        rw [List.length_take] at hj
        rw [List.getElem_take] at ej
        have := (List.getElem_inj (i := j) (j := n) (h₀ := by rw [List.length_map]; omega) (h₁ := by rw [List.length_map]; omega) nd).mp (by rw [List.getElem_map, List.getElem_map, ej, e])
        omega
/-- one told-not row: the boxes that have it are taken off -/
def joinI' (zero : List Int) (j : List Int → List Int → List Int) (ps : ID) : ID := ps.foldl (fun acc q => putI acc (j q.1 zero) (getI acc (j q.1 zero) - q.2)) ps
end DL
set_option Elab.async false
set_option linter.all false
set_option maxRecDepth 100000
set_option maxHeartbeats 4000000
/-! y = {k: v for ..} on a line, keys tuples -/
namespace IT
open PySem PySem.Spec PyProof.Rows L2
section
variable {X : Cx} {i : Nat} {y : PySem.Str} {py : Pos} {kx vx tg iter : Expr} {ifs : List Expr} {scope : Scope} {own : List (PySem.Str × Nat)} {pos spos : Pos} {wi : TI} {g : TG} {tt : TT} {te tv : TE}
theorem ps_setDcT (hc : X.calm = true) (hN : X.N.Nodup) (hu : X.A.units + 1 < cLine) (hy : X.N[i]? = some y) (hyl : X.env.scope.names.lookup y = some .local) (hsw : swapsWith (.DictComp kx vx [⟨tg, iter, ifs, 0⟩] scope pos) (some (.Name y py)) spos.line X.env = pure true)
    (hi : PI X tg iter wi) (ok : BlkOk X.N X.env.scope scope own) (pgu : ∀ s H C cl fp, PG (X.blk s H scope (compEnvC scope cl C X.env) fp) tg g) (ptu : ∀ s H C cl fp, PTs (X.blk s H scope (compEnvC scope cl C X.env) fp) ifs tt) (pku : ∀ s H C cl fp, PE (X.blk s H scope (compEnvC scope cl C X.env) fp) kx te)
    (pvu : ∀ s H C cl fp, PE (X.blk s H scope (compEnvC scope cl C X.env) fp) vx tv) (hs : ∀ x, foldedSetIterable iter X.env x = pure x := by intro _; rfl) :
    PS X (.Assign [.Name y py] (.DictComp kx vx [⟨tg, iter, ifs, 0⟩] scope pos) spos) (tAsg (tDcT wi g tt te tv (own.map (·.2))) (gName i)) := ⟨fun pins s σ H D I q => by
  rw [exec_Assign_Name_used _ _ _ _ hsw]
  refine wpAny_bind (wpAny_standAt (wpAny_bind ?_))
  show wpAny _ X.A (do let _ ← comprehension (.DictComp kx vx [⟨tg, iter, ifs, 0⟩] scope pos) scope X.env (firstIterPos [⟨tg, iter, ifs, 0⟩] pos) newDict false (eval iter X.env) (some (assign (.Name y py) X.env))) _ _ s
  have q1 : tDcT wi g tt te tv (own.map (·.2)) σ H (fun x H1 => gName i x σ H1 D.nx) := q
  refine wpAny_bind (thn (dc_tups (Qf := fun _ s' => SP X pins D .next s') hc hN I hi ok pgu ptu pku pvu hs hu q1 fun L C s' m H' J nx hn ⟨f0, f1, f2, f3, f4, f5⟩ => ?_) fun _ s' hq => wpAny_pure (wpAny_pure hq))
  show wpAny _ _ (assign (.Name y py) X.env (.ref L)) _ _ _
  refine wpAny_assign_Name (store_ok2 (v := V.ref L) J hN hy (.inl hyl) rfl (fun s2 J2 ⟨a, sb, ha⟩ => ?_) (.inr hyl))
  have ne : C ≠ a := by
    rcases ha with z | z
    · exact z ▸ f1
    · exact fun e => f4 y a z e.symm
  exact ⟨m, hn.sameBut sb ne, fun h3 sb3 => ⟨_, H', J2.turned (t' := s2.toks) (fun b o hb e => (sb3.2 b hb).trans e) f0 f1 f3 f4 f5, nx⟩⟩⟩
theorem sw_trueD {gs : List Comprehension} {l : Nat} {env : Env} (hk : env.scope.kind = .function) (hy : env.scope.names.lookup y = some .local) (hl : (py.line == pos.line) = true)
    (ha : (scope.names.any fun (n, k) => n == y && (k == .local || k == .cell)) = false) : swapsWith (.DictComp kx vx gs scope pos) (some (.Name y py)) l env = pure true := by
  have k1 : env.kindOf y = some .local := hy
  have k2 : env.blockKind = .function := by unfold Env.blockKind; rw [hk]; rfl
  unfold swapsWith
  simp only [k2, k1, ha, Expr.pos, hl]
  rfl
end
end IT
set_option Elab.async false
set_option linter.all false
set_option maxRecDepth 100000
set_option maxHeartbeats 4000000
namespace DL
open PySem PySem.Spec PyProof.Rows L2
section
variable {X : Cx} {T : List Addr} {B : Bk} {kx vx tg iter : Expr} {ifs : List Expr} {scope : Scope} {own : List (Str × Nat)} {ρ : Rho} {S S1 : Sto} {xs : List D} {Vw0 : Sto → Prop} {pos py spos : Pos} {l : Addr} {gs : List (List L2.Key × D)} {H : Hp} {P : DEnds}
/-- an owned dict is locked, and let go after that -/
theorem lock_start (g : Gd X.K T B H (S ++ [(l, .dT gs)])) : ∃ fs, H l = some (.dT fs) ∧ ∀ od, Gd X.K T (B.frz X.K l gs) (upd H l (.frz od (.dT fs))) S ∧ Ext (mm (S ++ [(l, D.dT gs)])) (mm S) H (upd H l (.frz od (.dT fs))) ∧
    ∀ H' S', Gd X.K T (B.frz X.K l gs) H' S' → Ext (mm S) (mm S') (upd H l (.frz od (.dT fs))) H' → H' l = some (.frz od (.dT fs)) ∧ Gd X.K T B (upd H' l (.dT fs)) S' ∧ Ext (mm (S ++ [(l, D.dT gs)])) (mm S') H (upd H' l (.dT fs)) := by
  have hm : (l, D.dT gs) ∈ S ++ [(l, D.dT gs)] := mem_last
  obtain ⟨fs, hf, ef, rf⟩ := g.g.own _ hm
  have sub : S.Sublist (S ++ [(l, D.dT gs)]) := List.sublist_append_left _ _
  have inM : l ∈ mm (S ++ [(l, D.dT gs)]) := by rw [mm_append]; simp
  have nl : l ∉ mm S := fun z => by
    have nd := g.g.nd
    rw [mm_append] at nd
    exact (List.nodup_append.mp nd).2.2 l z l (by show l ∈ [l]; simp) rfl
  refine ⟨fs, hf, fun od => ?_⟩
  have x0 : Ext (mm (S ++ [(l, D.dT gs)])) (mm S) H (upd H l (.frz od (.dT fs))) := ⟨fun a o ha q => .inl ((upd_ne fun z => ha (by rw [z]; exact inM)).trans q), fun a h n => absurd (mm_sub sub a h) n⟩
  have ne : ∀ p ∈ S, p.1 ≠ l := fun p hp z => nl (by rw [← z]; exact List.mem_map.mpr ⟨p, hp, rfl⟩)
  have g0 : GoodS X.K T (upd H l (.frz od (.dT fs))) S := ⟨fun p hp => (g.g.own p (sub.subset hp)).ext x0 fun o q => (upd_ne (ne p hp)).trans q, (g.g.less sub).nd, fun P hP => by
    obtain ⟨ps, h1, h2⟩ := g.g.tab P hP
    exact ⟨ps, (upd_ne fun z => by rw [z, hf] at h1; cases h1).trans h1, h2⟩⟩
  refine ⟨⟨g0, B.mono _ _ _ _ g.r x0, nl, od, fs, upd_same, ef, rf.ext x0⟩, x0, fun H' S' g' x' => ?_⟩
  have hl : H' l = some (.frz od (.dT fs)) := x'.kp nl upd_same (fun _ z => by cases z)
  have xa : Ext (mm (S ++ [(l, D.dT gs)])) (mm S') H (upd H' l (.dT fs)) := ⟨fun a o ha q => by
    have na : a ≠ l := fun z => ha (by rw [z]; exact inM)
    rw [upd_ne na]
    exact (x0.trans x').keep a o ha q, (x0.trans x').new⟩
  exact ⟨hl, g.to xa (g'.g.unfrz hl), xa⟩
/-- y = {k: v for .. in d.items() if ..}: the dict d that stands last is walked, and owned no more -/
theorem ds_asgDcT (i : Nat) {y : Str} {bs : Nat → Bool} {key : Nat → List L2.Key} {val : Nat → D} (hc : X.calm = true) (hN : X.N.Nodup) (hu : X.A.units + 1 < cLine) (hi : DI X T (B.frz X.K l gs) tg iter ρ S xs Vw0 S1) (ok : BlkOk X.N X.env.scope scope own) (hz : xs.length < 100000)
    (O : DcOk X T (B.frz X.K l gs) kx vx tg ifs scope (own.map (·.2)) ρ xs Vw0 S1 bs key val) (k : ∀ l', P.nx (ρ.set i (some (.ref l'))) (S1 ++ [(l', .dT (dcAcc bs key val xs.length))])) (hy : X.N[i]? = some y := by rfl) (hyl : X.env.scope.names.lookup y = some .local := by rfl)
    (hsw : swapsWith (.DictComp kx vx [⟨tg, iter, ifs, 0⟩] scope pos) (some (.Name y py)) spos.line X.env = pure true := by exact IT.sw_trueD rfl rfl rfl (by decide +kernel)) (hs : ∀ x, foldedSetIterable iter X.env x = pure x := by intro _; rfl) :
    DS X T B (.Assign [.Name y py] (.DictComp kx vx [⟨tg, iter, ifs, 0⟩] scope pos) spos) ρ (S ++ [(l, .dT gs)]) P := fun σ H g s => by
  obtain ⟨fs, hf, st⟩ := lock_start g
  refine wS_of (ps_lock (IT.ps_setDcT (own := own) hc hN hu hy hyl hsw pi_w ok pg_U pts_U pe_U pe_U hs)) ⟨l, .dT fs, hf, trivial, fun od => ?_⟩
  obtain ⟨g0, x0, fin⟩ := st od
  refine wI_mono (dc_D hi hz O σ _ g0 (s.ext x0)) fun J H1 q L hL => ?_
  obtain ⟨W, w0, wt⟩ := q L hL
  refine ⟨W, w0, fun n m H2 w => ?_⟩
  rcases wt n m H2 w with ⟨sp, d, S', ⟨l', e1, e2⟩, r, g2, x2⟩ | go
  · subst e1; subst e2; cases r
    obtain ⟨hl, g3, x3⟩ := fin _ _ g2 x2
    exact .inl ⟨sp, hl, _, _, k L, g3, (s.ext x3).set (.ref L) i⟩
  · exact .inr go
end
end DL
set_option Elab.async false
set_option linter.all false
set_option maxRecDepth 100000
set_option maxHeartbeats 1000000
namespace SB
open PySem PySem.Spec PyProof.Rows L2 DL
section
/-- one told-not row -/
def stepI (ps : ID) (zero : List Int) : ID := ps.foldl (fun acc q => putI acc (joinI q.1 zero) (getI acc (joinI q.1 zero) - q.2)) ps
def signI (start : List Int) (zeros : List (List Int)) : ID := zeros.foldl (fun ps z => (stepI ps z).filter fun p => !decide (p.2 = 0)) [(start, 1)]
/-- keys all different, all of the length n -/
structure IdOk (n m : Nat) (ps : ID) : Prop where
  nd : (ps.map (·.1)).Nodup
  len : ∀ p ∈ ps, p.1.length = n
  few : ps.length ≤ m
theorem IdOk.put {n m : Nat} {ps : ID} (h : IdOk n m ps) {k : List Int} (hk : k.length = n) (v : Int) : IdOk n (m + 1) (putI ps k v) := by
  refine ⟨putI_nd h.nd k v, fun p hp => ?_, by have := putI_len ps k v; have := h.few; omega⟩
  have hm : p.1 ∈ (putI ps k v).map (·.1) := List.mem_map.mpr ⟨p, hp, rfl⟩
  have old : p.1 ∈ ps.map (·.1) → p.1.length = n := fun z => by
    obtain ⟨q, hq, e⟩ := List.mem_map.mp z
    rw [← e]; exact h.len q hq
  rw [putI_keys] at hm
  split at hm
  · exact old hm
  · rcases List.mem_append.mp hm with z | z
    · exact old z
    · rw [List.mem_singleton.mp z]; exact hk
theorem IdOk.fold {n : Nat} {zero : List Int} (hz : zero.length = n) : ∀ (qs : ID) {m : Nat} {ps : ID}, IdOk n m ps → (∀ q ∈ qs, q.1.length = n) → IdOk n (m + qs.length) (qs.foldl (fun acc q => putI acc (joinI q.1 zero) (getI acc (joinI q.1 zero) - q.2)) ps)
  | [], _, _, h, _ => h
  | q :: qs, m, ps, h, hq => by
    have hl : (joinI q.1 zero).length = n := by rw [joinI_len (by rw [hq q List.mem_cons_self, hz])]; exact hq q List.mem_cons_self
    have := IdOk.fold hz qs (h.put hl (getI ps (joinI q.1 zero) - q.2)) fun r hr => hq r (List.mem_cons_of_mem _ hr)
    rw [List.length_cons, List.foldl_cons]
    rw [show m + (qs.length + 1) = m + 1 + qs.length by omega]
    exact this
theorem IdOk.filter {n m : Nat} {ps : ID} (h : IdOk n m ps) (f : List Int × Int → Bool) : IdOk n m (ps.filter f) :=
  ⟨h.nd.sublist ((List.filter_sublist).map _), fun p hp => h.len p (List.mem_filter.mp hp).1, Nat.le_trans (List.length_filter_le _ _) h.few⟩
theorem IdOk.step {n m : Nat} {ps : ID} {zero : List Int} (h : IdOk n m ps) (hz : zero.length = n) : IdOk n (m + m) (stepI ps zero) := by
  have a := IdOk.fold hz ps h h.len
  exact ⟨a.nd, a.len, by have := a.few; have := h.few; unfold stepI; omega⟩
theorem sign_ok {n : Nat} {start : List Int} (hs : start.length = n) : ∀ (zeros : List (List Int)) {m : Nat} {ps : ID}, IdOk n m ps → (∀ z ∈ zeros, z.length = n) → IdOk n (m * 2 ^ zeros.length) (zeros.foldl (fun ps z => (stepI ps z).filter fun p => !decide (p.2 = 0)) ps)
  | [], m, ps, h, _ => by simpa using h
  | z :: zs, m, ps, h, hz => by
    have a := sign_ok hs zs ((h.step (hz z List.mem_cons_self)).filter fun p => !decide (p.2 = 0)) fun y hy => hz y (List.mem_cons_of_mem _ hy)
    rw [List.foldl_cons, List.length_cons]
    rw [show m * 2 ^ (zs.length + 1) = (m + m) * 2 ^ zs.length by rw [Nat.pow_succ, ← Nat.two_mul]; rw [Nat.mul_comm (2 ^ zs.length) 2, ← Nat.mul_assoc, Nat.mul_comm m 2]]
    exact a
end
end SB
set_option Elab.async false
set_option linter.all false
set_option maxRecDepth 100000
set_option maxHeartbeats 1000000
namespace SB
open PySem PySem.Spec PyProof.Rows L2 DL
end SB
set_option Elab.async false
set_option linter.all false
set_option maxHeartbeats 1000000
namespace DL
/-! ### what a dict of signs counts -/
def wsum (f : List Int → Int) : ID → Int
  | [] => 0
  | p :: ps => p.2 * f p.1 + wsum f ps
theorem wsum_append (f : List Int → Int) : ∀ ps qs : ID, wsum f (ps ++ qs) = wsum f ps + wsum f qs
  | [], qs => by simp [wsum]
  | p :: ps, qs => by rw [List.cons_append, wsum, wsum, wsum_append f ps qs]; omega
theorem wsum_same (f : List Int → Int) (k : List Int) (v : Int) : ∀ ps : ID, k ∉ ps.map (·.1) → wsum f (ps.map fun p => if p.1 = k then (p.1, v) else p) = wsum f ps
  | [], _ => rfl
  | p :: ps, h => by
    have h1 : ¬ p.1 = k := fun z => h (by simp [z])
    have h2 : k ∉ ps.map (·.1) := fun z => h (List.mem_cons_of_mem _ z)
    rw [List.map_cons, if_neg h1, wsum, wsum, wsum_same f k v ps h2]
theorem wsum_put (f : List Int → Int) (k : List Int) (d : Int) : ∀ ps : ID, (ps.map (·.1)).Nodup → wsum f (putI ps k (getI ps k - d)) = wsum f ps - d * f k
  | [], _ => by simp [putI, getI, wsum, Int.neg_mul, Int.zero_sub]
  | p :: ps, nd => by
    rw [List.map_cons, List.nodup_cons] at nd
    by_cases e : p.1 = k
    · have g : getI (p :: ps) k = p.2 := by simp [getI, e]
      rw [g]
      have h2 : k ∉ ps.map (·.1) := by rw [← e]; exact nd.1
      have : putI (p :: ps) k (p.2 - d) = (p.1, p.2 - d) :: ps.map (fun q => if q.1 = k then (q.1, p.2 - d) else q) := by simp [putI, e]
      rw [this, wsum, wsum, wsum_same f k _ ps h2, e, Int.sub_mul]
      omega
    · have g : getI (p :: ps) k = getI ps k := by simp [getI, e]
      have ih := wsum_put f k d ps nd.2
      rw [g]
      have : putI (p :: ps) k (getI ps k - d) = p :: putI ps k (getI ps k - d) := by
        unfold putI
        by_cases h : (ps.any fun p => decide (p.1 = k)) = true
        · simp [e, h]
        · simp [e, h]
      rw [this, wsum, wsum, ih]
      omega
theorem wsum_filter (f : List Int → Int) : ∀ ps : ID, wsum f (ps.filter fun p => !decide (p.2 = 0)) = wsum f ps
  | [] => rfl
  | p :: ps => by
    by_cases e : p.2 = 0
    · rw [List.filter_cons_of_neg (by simp [e]), wsum_filter f ps, wsum, e]; omega
    · rw [List.filter_cons_of_pos (by simp [e]), wsum, wsum, wsum_filter f ps]
end DL
set_option Elab.async false
set_option linter.all false
set_option maxRecDepth 100000
set_option maxHeartbeats 1000000
namespace SB
open PySem PySem.Spec PyProof.Rows L2 DL
section
/-- the sum after one told-not row: the boxes that have it, too, are taken off -/
theorem wsum_fold (f : List Int → Int) (zero : List Int) : ∀ (qs ps : ID), (ps.map (·.1)).Nodup → wsum f (qs.foldl (fun acc q => putI acc (joinI q.1 zero) (getI acc (joinI q.1 zero) - q.2)) ps) = wsum f ps - wsum (fun k => f (joinI k zero)) qs
  | [], ps, _ => by simp [wsum]
  | q :: qs, ps, nd => by
    rw [List.foldl_cons, wsum_fold f zero qs _ (putI_nd nd _ _), wsum_put f _ _ ps nd, wsum]
    omega
theorem wsum_step (f : List Int → Int) (zero : List Int) (ps : ID) (nd : (ps.map (·.1)).Nodup) : wsum f (stepI ps zero) = wsum f ps - wsum (fun k => f (joinI k zero)) ps := wsum_fold f zero ps ps nd
end
section
/-- inclusion and exclusion: c counts what holds a box; b's own rule: c of a joined with z counts those of a that hold z -/
theorem wsum_sign {β : Type} (L : List β) (has : β → List Int → Bool) (len : Nat) (hj : ∀ b k z, has b (joinI k z) = (has b k && has b z) ∨ k.length ≠ len ∨ z.length ≠ len) : True := trivial
/-- f, over boxes in L -/
def cnt {β : Type} (L : List β) (p : β → Bool) : Int := (L.filter p).length
theorem cnt_split {β : Type} (L : List β) (p q : β → Bool) : cnt L p = cnt L (fun b => p b && q b) + cnt L (fun b => p b && !q b) := by
  unfold cnt
  induction L with
  | nil => rfl
  | cons b L ih =>
    cases h1 : p b <;> cases h2 : q b <;> simp [h1, h2] <;> omega
end
end SB
set_option Elab.async false
set_option linter.all false
set_option maxRecDepth 100000
set_option maxHeartbeats 1000000
namespace SB
open PySem PySem.Spec PyProof.Rows L2 DL
section
variable {β : Type}
theorem wsum_congr {f g : List Int → Int} : ∀ {ps : ID}, (∀ p ∈ ps, f p.1 = g p.1) → wsum f ps = wsum g ps
  | [], _ => rfl
  | p :: ps, h => by rw [wsum, wsum, h p List.mem_cons_self, wsum_congr fun q hq => h q (List.mem_cons_of_mem _ hq)]
theorem wsum_sub (f g : List Int → Int) : ∀ ps : ID, wsum f ps - wsum g ps = wsum (fun k => f k - g k) ps
  | [] => by simp [wsum]
  | p :: ps => by rw [wsum, wsum, wsum, ← wsum_sub f g ps, Int.mul_sub]; omega
theorem wsum_all {n : Nat} (L : List β) (has : β → List Int → Bool) (hj : ∀ b k z, k.length = n → z.length = n → has b (joinI k z) = (has b k && has b z)) : ∀ (zeros : List (List Int)) (m : Nat) (ps : ID) (g : β → Bool), IdOk n m ps → (∀ z ∈ zeros, z.length = n) →
    wsum (fun k => cnt L fun b => has b k && g b) (zeros.foldl (fun ps z => (stepI ps z).filter fun p => !decide (p.2 = 0)) ps) = wsum (fun k => cnt L fun b => has b k && (g b && zeros.all fun z => !has b z)) ps
  | [], _, ps, g, _, _ => by simp
  | z :: zs, m, ps, g, ok, hz => by
    have lz := hz z List.mem_cons_self
    rw [List.foldl_cons, wsum_all L has hj zs (m + m) _ g ((ok.step lz).filter _) fun y hy => hz y (List.mem_cons_of_mem _ hy), wsum_filter, wsum_step _ _ _ ok.nd, wsum_sub]
    refine wsum_congr fun p hp => ?_
    have lp := ok.len p hp
    have s := cnt_split L (fun b => has b p.1 && (g b && zs.all fun z => !has b z)) (fun b => has b z)
    have e1 : (fun b => has b (joinI p.1 z) && (g b && zs.all fun z => !has b z)) = fun b => (has b p.1 && (g b && zs.all fun z => !has b z)) && has b z := by
      funext b
      rw [hj b _ _ lp lz]
      cases has b p.1 <;> cases has b z <;> cases g b <;> simp
    have e2 : (fun b => has b p.1 && (g b && (z :: zs).all fun z => !has b z)) = fun b => (has b p.1 && (g b && zs.all fun z => !has b z)) && !has b z := by
      funext b
      rw [List.all_cons]
      cases has b p.1 <;> cases has b z <;> cases g b <;> simp
    rw [e1, e2]
    omega
end
end SB
set_option Elab.async false
set_option linter.all false
set_option maxRecDepth 100000
set_option maxHeartbeats 4000000
namespace DL
open PySem PySem.Spec PyProof.Rows L2 GX
/-! ### sum of a generator expression -/
def sO (val : Nat → Int) (i : Nat) (t : Tok) (c : Nat) : Obj := { cls := .type "list", dict := none, data := .seq #[.int (preSum val i) t] c, slots := #[] }
section
variable {Xg : Cx} {E : Gen Xg} {A0 : Around} {g : Nat} {a : Addr} {go : Obj} {R : Result → Shared → Prop} {val : Nat → Int} {S0 : Addr}
theorem code_sum (hh : A0.handled = none) (hroom : A0.depth < recursionLimit) (hpn : (a, go) ∈ Xg.pn) (hgo : ∀ h : Heap, h.get? a = some go → h.IsGen a g) (hP : ∀ i, E.Pn i = fun pins => ∃ t c, pins = [(S0, sO val i t c)])
    (hv : ∀ i x H, E.Val i x H → x = .int (val i)) (hfit : ∀ j, j < E.n → InLong (val j) ∧ InLong (preSum val (j + 1)))
    (next : ∀ i v s t c, E.Out i v s → s.heap.get? S0 = some (sO val i t c) → ∀ (f : Obj → Obj) (c' : Nat), f (sO val i t c) = sO val (i + 1) s.toks c' → E.Sus (i + 1) { s with heap := s.heap.update S0 f, toks := s.toks + 1 }) :
    ∀ (k i : Nat) (s : Shared), E.n - i = k → i ≤ E.n → E.Sus i s → E.Wake A0.in1.in1 g i s.gens → (∀ s' t', E.End s' → R (.ok (.ret (.int (preSum val E.n) t'))) s') → codeAny (model Xg.prog Xg.w) A0 (.builtin "sum.loop" ⟨[.ref a, .ref S0, rawInt 0, rawInt 0], []⟩) R s := by
  have at0 : ∀ i s, E.Sus i s → ∃ t c, s.heap.get? S0 = some (sO val i t c) := fun i s ⟨pins, H, hp, I, _⟩ => by
    rw [hP i] at hp
    obtain ⟨t, c, rfl⟩ := hp
    exact ⟨t, c, (I.pin _ (List.mem_append_right _ List.mem_cons_self)).1⟩
  have atO : ∀ i v s, E.Out i v s → ∃ t c, s.heap.get? S0 = some (sO val i t c) := fun i v s ⟨pins, H, x, hp, I, _⟩ => by
    rw [hP i] at hp
    obtain ⟨t, c, rfl⟩ := hp
    exact ⟨t, c, (I.pin _ (List.mem_append_right _ List.mem_cons_self)).1⟩
  intro k
  induction k with
  | zero =>
    intro i s hk hi hst hw hR
    have hin : i = E.n := by omega
    subst hin
    obtain ⟨tA, c, hS⟩ := at0 _ s hst
    refine codeAny_builtin F.entry_sum_loop ?_
    rw [Around.under_plainId F.plain_sum_loop _]
    show wpAny _ A0.in1 (seqItems? (.ref S0) >>= _) _ _ s
    refine wpAny_bind (wpAny_seqItems hS rfl ?_)
    show wpAny _ A0.in1 (tryCatch (pyNext (.ref a)) _ >>= _) _ _ s
    refine wpAny_bind (wpAny_tryCatch (next_done hh hroom hpn hgo hst hw (fun i v s h => ?_) fun s' hm => wpAny_pure (hR s' tA hm)))
    obtain ⟨t, c, q⟩ := atO i v s h
    exact ⟨_, next i v s t c h q (fun _ => sO val (i + 1) s.toks c) c rfl⟩
  | succ k ih =>
    intro i s hk hi hst hw hR
    have hlt : i < E.n := by omega
    obtain ⟨tA, c, hS⟩ := at0 _ s hst
    refine codeAny_builtin F.entry_sum_loop ?_
    rw [Around.under_plainId F.plain_sum_loop _]
    show wpAny _ A0.in1 (seqItems? (.ref S0) >>= _) _ _ s
    refine wpAny_bind (wpAny_seqItems hS rfl ?_)
    show wpAny _ A0.in1 (tryCatch (pyNext (.ref a)) _ >>= _) _ _ s
    refine wpAny_bind (wpAny_tryCatch (next_item hh hroom hpn hgo hst hw hlt fun v s' ho hw' => ?_))
    obtain ⟨t2, c2, hS'⟩ := atO i v s' ho
    obtain ⟨t, rfl⟩ : ∃ t, v = .int (val i) t := by
      obtain ⟨pins, H, x, hp, I, st, hf, rv, hx, hG⟩ := ho
      have e := hv i x H hx
      subst e
      exact rv
    obtain ⟨⟨f1, f2⟩, f3, f4⟩ := hfit i hlt
    have hc : ((decide (-(2 ^ 63) ≤ val i) && decide (val i < 2 ^ 63)) && (decide (-(2 ^ 63) ≤ preSum val i + val i) && decide (preSum val i + val i < 2 ^ 63))) = true := by
      simp only [preSum] at f3 f4
      simp only [Bool.and_eq_true, decide_eq_true_eq]
      exact ⟨⟨f1, f2⟩, f3, f4⟩
    show wpAny _ A0.in1 (if (_ : Bool) = true then (mkInt (preSum val i + val i) >>= _) else _) _ _ _
    split
    · refine wpAny_bind (wpAny_mkInt ?_)
      show wpAny _ A0.in1 (updateSeq S0 (fun _ => #[.int (preSum val i + val i) s'.toks]) >>= _) _ _ _
      refine wpAny_bind ?_
      exact wpAny_updateSeq hS' rfl (wpAny_pure ⟨plainId_quiet F.plain_sum_loop _, ih (i + 1) _ (by omega) hlt (next i _ s' t2 c2 ho hS' _ _ rfl) hw' hR⟩)
    · rename_i hneg
      exact absurd hc hneg
end
end DL
set_option Elab.async false
set_option linter.all false
set_option maxRecDepth 100000
set_option maxHeartbeats 4000000
namespace DL
open PySem PySem.Spec PyProof.Rows L2 GX
/-! ### sum(e for .. in ..) -/
theorem boot_sum' : bootBuiltins "sum" = some (.builtin "sum") := by decide +kernel
section
variable {Xg : Cx} {E : Gen Xg} {val : Nat → Int} {S0 : Addr}
/-- the running total is written: the generator goes on sleeping -/
theorem sum_next (hP : ∀ i, E.Pn i = fun pins => ∃ t c, pins = [(S0, sO val i t c)]) (O : E.Ok) (nf : S0 ∉ E.fp) (f0 : S0 ≠ Xg.env.locals) (f1 : S0 ∉ Xg.fs) (f2 : S0 ∈ Xg.ex ∨ Xg.s_0.heap.objs.size ≤ S0) (f3 : ∀ x c, Xg.env.cells.lookup x = some c → c ≠ S0) (f4 : ∀ p ∈ Xg.pn, p.1 ≠ S0)
    (i : Nat) (v : Value) (s : Shared) (t : Tok) (c : Nat) (h : E.Out i v s) (hS : s.heap.get? S0 = some (sO val i t c)) (f : Obj → Obj) (c' : Nat) (hf : f (sO val i t c) = sO val (i + 1) s.toks c') : E.Sus (i + 1) { s with heap := s.heap.update S0 f, toks := s.toks + 1 } := by
  obtain ⟨pins, H, x, hp, I, st, hfp, _, _, hG⟩ := h
  rw [hP i] at hp
  obtain ⟨t1, c1, rfl⟩ := hp
  have nS : H S0 = none := (I.pin (S0, sO val i t1 c1) (List.mem_append_right _ List.mem_cons_self)).2.1
  have I0 : Inv Xg [] E.σ H s := I.pins_of fun p hp => absurd hp List.not_mem_nil
  have ke : ∀ b o, b ≠ S0 → s.heap.get? b = some o → (s.heap.update S0 f).get? b = some o := fun b o hb e => (Heap.get?_update_other _ _ (Ne.symm hb)).trans e
  have I1 : Inv Xg [] E.σ H { s with heap := s.heap.update S0 f, toks := s.toks + 1 } := I0.turned (t' := s.toks + 1) ke nS f0 f2 f3 fun p hp => by
    rw [List.append_nil] at hp
    exact f4 p hp
  have g1 : (s.heap.update S0 f).get? S0 = some (sO val (i + 1) s.toks c') := by
    rw [← hf]
    exact Heap.get?_update_self _ hS (by rw [hf]; rfl)
  refine ⟨[(S0, sO val (i + 1) s.toks c')], H, by rw [hP]; exact ⟨_, _, rfl⟩, I1.pins_of fun p hp => ?_, O.turn.keep _ _ _ st fun b hb o e => ke b o (fun z => nf (by rw [← z]; exact hb)) e, hfp, hG⟩
  rw [List.mem_singleton.mp hp]
  exact ⟨g1, nS, f0, f1, fun v z => by cases z⟩
end
section
variable {X : Cx} {T : List Addr} {B : Bk} {elt tg iter : Expr} {scope : Scope} {own : List (Str × Nat)} {ρ : Rho} {S S1 : Sto} {pos gpos p : Pos} {xs : List D} {V : Sto → Prop}
theorem dx_sum {val : Nat → Int} {k : Nat} {c P : Addr} (hm : X.mg "sum" = none) (hg : Gl X "sum") (hr : Room (k + 1) X.A) (TB : GxR.TabB X.base X.mg c P) (hcode : X.env.code = .ref c) (hP : P ∈ T) (hc : X.calm = true) (hN : X.N.Nodup) (ok : BlkOk X.N X.env.scope scope own)
    (hi : DI X T B tg iter ρ S xs V S1) (O : GxOk X T B elt tg scope (own.map (·.2)) ρ xs V S1 fun i => .int (val i)) (hfit : ∀ j, j < xs.length → InLong (val j) ∧ InLong (preSum val (j + 1))) (hcell : ∀ y ∈ scope.names, y.2 ≠ .cell := by decide +kernel) (hco : scope.isCoroutine = false := by rfl) (h0 : scope.names.lookup (".0" : Str) = some NameKind.local := by rfl)
    (hs : ∀ v, genFold iter X.env v = pure v := by intro _; rfl)
    (he : starEach [.GeneratorExp elt [⟨tg, iter, [], 0⟩] scope gpos] X.env = (false, eval (.GeneratorExp elt [⟨tg, iter, [], 0⟩] scope gpos) X.env) :: starEach [] X.env := by rfl) :
    DX X T B (.Call (.Name "sum" p) [.GeneratorExp elt [⟨tg, iter, [], 0⟩] scope gpos] [] pos) ρ S (.int (preSum val xs.length)) S1 := fun σ H g sl => wE.mk fun pins st I => by
  refine wpAny_Call_Name_kw (ld_blt I hg hm boot_sum' ?_)
  refine PyProof.Rows.callWith_builtin1 ?_ he (by rfl)
  rw [he]
  show wpAny _ _ (spliced ((false, eval (.GeneratorExp elt [⟨tg, iter, [], 0⟩] scope gpos) X.env) :: backTo pos (starEach [] X.env))) _ _ st
  have hw : wI X tg iter σ H fun J H1 => GxR.TabG H1 P ∧ (Gd X.K T B H1 S1 ∧ Ext (mm S) (mm S1) H H1 ∧ Yields X.K T xs V (mm S1) H1 J) := wI_mono (hi σ H g sl) fun J H1 q => ⟨q.1.g.tab P hP, q⟩
  refine Calls.spliced_cons (gen_make (k := k + 1) hr TB hcode hc hN ok hcell hco h0 hs I hw fun it fp tn J H1 H2 s4 code a go gg s5 ⟨g1, x1, Yd⟩ M => ?_)
  refine Calls.spliced_nil ?_
  obtain ⟨x2, g2⟩ := tabbed_ext g1.g hP M.tab
  have ga : s5.heap.get? a = some go := (M.I5.pin (a, go) (List.mem_append_left _ List.mem_cons_self)).1
  refine call_function_tree F.kind_sum F.plain_sum F.entry_sum (F.args_sum1 _) ?_
  unfold Builtin.«sum»
  simp only [List.length_cons, List.length_nil]
  rw [if_neg (by decide)]
  refine wpAny_bind (wpAny_of_eq (show Builtin.Builtins.bindParams "sum" ["start"] 0 { } = pure [none] from rfl) ?_)
  refine wpAny_bind (wpAny_pyIter_gen (M.isg _ ga) ?_)
  refine wpAny_bind (wpAny_mkInt ?_)
  refine wpAny_bind (wpAny_pure ?_)
  simp only [List.forIn_cons, List.forIn_nil]
  refine wpAny_bind (wpAny_bind (wpAny_bind (wpAny_isInstance (T := "int") (b := false) (typeIs_int _ _ _) PySem.sub_int_str ?_)))
  simp only [Bool.false_eq_true, if_false]
  refine wpAny_pure (wpAny_bind (wpAny_bind (wpAny_isInstance (T := "int") (b := false) (typeIs_int _ _ _) PySem.sub_int_bytes ?_)))
  simp only [Bool.false_eq_true, if_false]
  refine wpAny_pure (wpAny_bind (wpAny_bind (wpAny_isInstance (T := "int") (b := false) (typeIs_int _ _ _) PySem.sub_int_bytearray ?_)))
  simp only [Bool.false_eq_true, if_false]
  refine wpAny_pure (wpAny_pure ?_)
  refine wpAny_bind (wpAny_newObj_type ?_)
  generalize hS0 : s5.heap.objs.size = S0
  have nfp : ∀ b ∈ fp, b ≠ S0 := fun b hb z => by
    obtain ⟨o, e, _⟩ := M.turn.obj _ _ M.tn0 b hb
    have := Heap.lt_size e
    rw [z, ← hS0] at this
    exact Nat.lt_irrefl _ this
  have aS : a ≠ S0 := fun z => by
    have := Heap.lt_size ga
    rw [z, ← hS0] at this
    exact Nat.lt_irrefl _ this
  let Pn : Nat → List (Addr × Obj) → Prop := fun i pins => ∃ t c, pins = [(S0, sO val i t c)]
  have E := gE_ok (Pn := Pn) hc hco O sl x1 g1 Yd M (fun i pins ⟨t, c, e⟩ p hp hb => by
    subst e
    rw [List.mem_singleton.mp hp] at hb
    exact nfp _ hb rfl)
  have kp : ∀ (ob : Obj) b u, s5.heap.get? b = some u → (s5.heap.push ob).get? b = some u := fun ob b u e => Heap.get?_push_of_some _ e
  have fS : H2 S0 = none := M.I5.hok.fresh (by rw [hS0]; exact Nat.le_refl _)
  have lS : S0 ≠ (Cx.gx X scope s4 H2 code fp [(a, go)]).env.locals := fun z => by
    have := M.I5.lt
    rw [← z, hS0] at this
    exact Nat.lt_irrefl _ this
  have nS : S0 ∉ (Cx.gx X scope s4 H2 code fp [(a, go)]).fs := M.I5.nofs (by rw [hS0]; exact Nat.le_refl _)
  have cS : ∀ x c, (Cx.gx X scope s4 H2 code fp [(a, go)]).env.cells.lookup x = some c → c ≠ S0 := fun x c e z => by
    obtain ⟨w, q⟩ := M.I5.cell x c e
    have := q.lt
    rw [z, hS0] at this
    exact Nat.lt_irrefl _ this
  refine wpAny_pure ⟨plainId_quiet F.plain_sum_loop _, ?_⟩
  have S0' : ∀ tk t, (gE X T B S1 elt tg iter scope gpos xs.length (fun i => .int (val i)) H1 (L2.wipe σ (own.map (·.2))) it fp tn J (Cx.gx X scope s4 H2 code fp [(a, go)]) Pn).Sus 0 { s5 with heap := s5.heap.push { cls := .type "list", dict := none, data := .seq #[.int 0 t] 0 }, toks := tk } := fun tk t => by
    refine ⟨[(S0, sO val 0 t 0)], H2, ⟨_, _, rfl⟩, (M.I5.kept (kp _)).pins_of fun p hp => ?_, M.turn.keep _ _ _ M.tn0 fun b hb o e => kp _ b o e, fun b hb => (M.hfp b hb).1, Nat.zero_le _, (g1.since (Ext.refl _ _)).to x2 g2⟩
    rw [List.mem_singleton.mp hp]
    refine ⟨?_, fS, lS, nS, fun v z => by cases z⟩
    rw [← hS0]
    exact Heap.get?_push_size _ rfl
  refine code_sum (E := gE X T B S1 elt tg iter scope gpos xs.length (fun i => .int (val i)) H1 (L2.wipe σ (own.map (·.2))) it fp tn J (Cx.gx X scope s4 H2 code fp [(a, go)]) Pn) (val := val) (S0 := S0) hr.hd hr.depth List.mem_cons_self M.isg (fun i => rfl) (fun i x H q => by cases q.2; rfl) hfit
    (fun i v s t c h hS f c' hf => sum_next (fun i => rfl) E (fun z => nfp _ z rfl) lS nS ?_ cS (fun p hp => ?_) i v s t c h hS f c' hf) xs.length 0 _ rfl (Nat.zero_le _) (S0' _ _) ⟨_, M.gens, fun s'' h'' => ⟨rfl, seg_start E gA_loop gA_start s'' s'' h''⟩⟩ fun s' t' hs' => ?_
  · exact .inr (by rw [← hS0]; exact M.I5.sz)
  · rw [List.mem_singleton.mp hp]; exact aS
  obtain ⟨H', pins', I', g'⟩ := gE_end (.inl hs')
  exact ⟨.int _, H', gx_back M I', ⟨_, rfl⟩, _, _, ⟨rfl, rfl⟩, .int _, g'.le (B.since_le H1 S1), x1.trans g'.r.2⟩
end
end DL
set_option Elab.async false
set_option linter.all false
set_option maxRecDepth 100000
set_option maxHeartbeats 4000000
/-! the items of a dict that has just been made -/
namespace DL
open PySem PySem.Spec PyProof.Rows L2
/-- locked behind the expression -/
def tLockP (te : TE) : TE := fun σ H Q => te σ H fun x H1 => ∃ d u, H1 d = some u ∧ Mut (some u) ∧ ∀ od, Q x (upd H1 d (.frz od u))
theorem pe_lockP {X : Cx} {e : Expr} {te : TE} (h : PE X e te) : PE X e (tLockP te) := ⟨fun pins s σ H Q I hw => thn (h.run pins s σ H _ I hw) fun v s1 ⟨x, H1, I1, r, d, u, hd, mu, q⟩ => by
  obtain ⟨od, I2⟩ := I1.lock hd mu
  exact ⟨x, _, I2, r, q od⟩⟩
section
variable {X : Cx} {T : List Addr} {B : Bk} {e tg : Expr} {ρ : Rho} {S S1 : Sto} {pos apos cpos : Pos} {l : Addr} {gs : List (List L2.Key × D)} {P : D → Sto → Prop}
theorem di_itemsTo {elts : List Expr} {kk : Nat} {tpos : Pos} (he : DE X T B e ρ S fun d S' => ∃ l, d = .ref l ∧ S' = S1 ++ [(l, .dT gs)]) (hbase : attributeBase e "items" X.env (eval e X.env) = eval e X.env := by rfl) (hline : (apos.endLine == cpos.line) = true := by rfl) :
    DI X T B (.Tuple elts kk tpos) (.Call (.Attribute e "items" apos) [] [] cpos) ρ S (gs.map fun g => .tup [.tupP (g.1.map kD), g.2]) (fun _ => True) S1 := fun σ H g s =>
  wI_of (IT.pi_itemsT (pe_lockP pe_w) hbase hline) (wE_mono (he σ H g s) fun v H1 ⟨d1, T1, ⟨l, e1, e2⟩, r1, g1, x1⟩ => by
    subst e1; subst e2; cases r1
    obtain ⟨fs, hf, st⟩ := lock_start g1
    refine ⟨l, .dT fs, hf, trivial, fun od => ?_⟩
    obtain ⟨g0, x0, _⟩ := st od
    obtain ⟨nl, od', fs', hl, ef, rf⟩ := g0.r.2
    rw [upd_same] at hl
    cases hl
    have hl : upd H1 l (.frz od (.dT fs)) l = some (.frz od (.dT fs)) := upd_same
    have lf : fs.length = gs.length := by have := congrArg List.length ef; simpa using this
    refine ⟨l, od, fs, rfl, hl, ⟨g0.g, g0.r.1⟩, x1.trans x0, fun i H2 S2 _ x2 g2 => ?_⟩
    have h2 := x2.kp nl hl (fun _ z => by cases z)
    have r2 := rf.ext x2
    refine ⟨fun hi => ?_, fun hi => ⟨h2, by rw [lf, hi, List.length_map]; exact Nat.le_refl _⟩⟩
    rw [List.length_map] at hi
    refine ⟨⟨h2, by omega⟩, fun x H3 hy => ?_⟩
    obtain ⟨t, q, k, w, hk, hq, rfl, ht, rfl⟩ := hy
    have ek : k = gs[i].1 := by
      have q := congrArg (fun l : List (List L2.Key) => l[i]?) ef
      simp only [List.getElem?_map, hk, List.getElem?_eq_getElem hi, Option.map_some] at q
      exact Option.some.inj q
    subst ek
    obtain ⟨dd, hd1, hd2⟩ := r2.getV (i := i) (v := w) (by rw [List.getElem?_map, hk]; rfl)
    rw [List.getElem?_map, List.getElem?_eq_getElem hi] at hd1
    cases hd1
    have x3 : Ext (mm S2) (mm S2) H2 (upd H2 t (.tup [.ref q, w])) := Ext.new1 ht
    have nt : t ∉ mm S2 := fun z => by
      obtain ⟨o, h, _⟩ := g2.memM z
      rw [ht] at h; cases h
    have nq : q ∉ mm S2 := g2.notT (.inl hq)
    have tq : upd H2 t (.tup [.ref q, w]) q = some (.tup (gs[i].1.map kV)) := (upd_ne fun z => by rw [z, ht] at hq; cases hq).trans hq
    exact ⟨_, by rw [List.getElem?_map, List.getElem?_eq_getElem hi]; rfl, .tup nt (.inl upd_same) (.cons (.tupP nq tq (Reps.ofKeys _)) (.cons (hd2.ext x3) .nil)), x3, g2.new1 ht⟩)
end
end DL
set_option Elab.async false
set_option linter.all false
set_option maxRecDepth 100000
set_option maxHeartbeats 1000000
namespace SB
open PySem PySem.Spec PyProof.Rows L2 DL
/-! ### how many boxes fit -/
theorem bitOr_nat (a b : Nat) : Builtin.bitOr (a : Int) (b : Int) = ((a ||| b : Nat) : Int) := by
  unfold Builtin.bitOr Builtin.bitAnd Builtin.bitNot
  have h1 : decide (0 ≤ -(a : Int) - 1) = false := decide_eq_false (by omega)
  have h2 : decide (0 ≤ -(b : Int) - 1) = false := decide_eq_false (by omega)
  rw [h1, h2]
  show -(-(((-(-(a : Int) - 1) - 1).toNat ||| (-(-(b : Int) - 1) - 1).toNat : Nat) : Int) - 1) - 1 = _
  rw [show (-(-(a : Int) - 1) - 1).toNat = a by omega, show (-(-(b : Int) - 1) - 1).toNat = b by omega]
  omega
theorem MaskOk.join {fs : List (List Str)} {k z : List Int} (hk : MaskOk fs k) (hz : MaskOk fs z) : MaskOk fs (joinI k z) := by
  have ll : k.length = z.length := by rw [hk.len, hz.len]
  refine ⟨(joinI_len ll).trans hk.len, fun i us m hu hm => ?_⟩
  have hi : i < k.length := by rw [← joinI_len ll]; exact (List.getElem?_eq_some_iff.mp hm).1
  have e1 : k[i]? = some k[i] := List.getElem?_eq_getElem hi
  have e2 : z[i]? = some (z[i]'(by omega)) := List.getElem?_eq_getElem _
  have e3 := joinI_get e1 e2
  rw [e3] at hm
  obtain ⟨a0, a1⟩ := hk.mem i us _ hu e1
  obtain ⟨b0, b1⟩ := hz.mem i us _ hu e2
  generalize k[i] = a at *
  generalize z[i]'(by omega) = b at *
  cases hm
  obtain ⟨a, rfl⟩ := Int.eq_ofNat_of_zero_le a0
  obtain ⟨b, rfl⟩ := Int.eq_ofNat_of_zero_le b0
  rw [bitOr_nat]
  have p : ((2 ^ us.length : Nat) : Int) = (2 : Int) ^ us.length := by simp
  have := Nat.or_lt_two_pow (x := a) (y := b) (n := us.length) (by omega) (by omega)
  omega
theorem putI_key {ps : ID} {k : List Int} {v : Int} {p : List Int × Int} (h : p ∈ putI ps k v) : p.1 = k ∨ ∃ q ∈ ps, q.1 = p.1 := by
  have hm : p.1 ∈ (putI ps k v).map (·.1) := List.mem_map.mpr ⟨p, h, rfl⟩
  rw [putI_keys] at hm
  have old : p.1 ∈ ps.map (·.1) → ∃ q ∈ ps, q.1 = p.1 := fun z => List.mem_map.mp z
  split at hm
  · exact .inr (old hm)
  · rcases List.mem_append.mp hm with z | z
    · exact .inr (old z)
    · exact .inl (List.mem_singleton.mp z)
/-- what holds of the start and is kept by joining holds of all keys -/
theorem signI_keys (G : List Int → Prop) : ∀ (zeros : List (List Int)) (ps : ID), (∀ z ∈ zeros, ∀ k, G k → G (joinI k z)) → (∀ p ∈ ps, G p.1) → ∀ p ∈ zeros.foldl (fun ps z => (stepI ps z).filter fun p => !decide (p.2 = 0)) ps, G p.1
  | [], _, _, h => h
  | z :: zs, ps, hj, h => by
    refine signI_keys G zs _ (fun y hy => hj y (List.mem_cons_of_mem _ hy)) fun p hp => ?_
    have hp := (List.mem_filter.mp hp).1
    have : ∀ (qs acc : ID), (∀ q ∈ qs, G q.1) → (∀ q ∈ acc, G q.1) → ∀ p ∈ qs.foldl (fun acc q => putI acc (joinI q.1 z) (getI acc (joinI q.1 z) - q.2)) acc, G p.1 := by
      intro qs
      induction qs with
      | nil => intro acc _ ha; exact ha
      | cons q qs ih =>
        intro acc hq ha
        refine ih _ (fun r hr => hq r (List.mem_cons_of_mem _ hr)) fun r hr => ?_
        rcases putI_key hr with e | ⟨s, hs, e⟩
        · rw [e]; exact hj z List.mem_cons_self _ (hq q List.mem_cons_self)
        · rw [← e]; exact ha s hs
    exact this ps ps h h p hp
/-- the sum of the absolute signs -/
def wabs : ID → Nat
  | [] => 0
  | p :: ps => p.2.natAbs + wabs ps
theorem wabs_append : ∀ ps qs : ID, wabs (ps ++ qs) = wabs ps + wabs qs
  | [], qs => by simp [wabs]
  | p :: ps, qs => by rw [List.cons_append, wabs, wabs, wabs_append ps qs]; omega
theorem wabs_same (k : List Int) (v : Int) : ∀ ps : ID, k ∉ ps.map (·.1) → wabs (ps.map fun p => if p.1 = k then (p.1, v) else p) = wabs ps
  | [], _ => rfl
  | p :: ps, h => by
    have h1 : ¬ p.1 = k := fun z => h (by simp [z])
    have h2 : k ∉ ps.map (·.1) := fun z => h (List.mem_cons_of_mem _ z)
    rw [List.map_cons, if_neg h1, wabs, wabs, wabs_same k v ps h2]
theorem wabs_put (k : List Int) (d : Int) : ∀ ps : ID, (ps.map (·.1)).Nodup → wabs (putI ps k (getI ps k - d)) ≤ wabs ps + d.natAbs
  | [], _ => by simp [putI, getI, wabs]
  | p :: ps, nd => by
    rw [List.map_cons, List.nodup_cons] at nd
    by_cases e : p.1 = k
    · have g : getI (p :: ps) k = p.2 := by simp [getI, e]
      rw [g]
      have h2 : k ∉ ps.map (·.1) := by rw [← e]; exact nd.1
      have : putI (p :: ps) k (p.2 - d) = (p.1, p.2 - d) :: ps.map (fun q => if q.1 = k then (q.1, p.2 - d) else q) := by simp [putI, e]
      rw [this, wabs, wabs, wabs_same k _ ps h2]
      dsimp only
      omega
    · have g : getI (p :: ps) k = getI ps k := by simp [getI, e]
      have ih := wabs_put k d ps nd.2
      rw [g]
      have : putI (p :: ps) k (getI ps k - d) = p :: putI ps k (getI ps k - d) := by
        unfold putI
        by_cases h : (ps.any fun p => decide (p.1 = k)) = true
        · simp [e, h]
        · simp [e, h]
      rw [this, wabs, wabs]
      omega
theorem wabs_fold (z : List Int) : ∀ (qs acc : ID), (acc.map (·.1)).Nodup → wabs (qs.foldl (fun acc q => putI acc (joinI q.1 z) (getI acc (joinI q.1 z) - q.2)) acc) ≤ wabs acc + wabs qs
  | [], _, _ => by simp [wabs]
  | q :: qs, acc, nd => by
    rw [List.foldl_cons, wabs]
    have a := wabs_fold z qs _ (putI_nd nd (joinI q.1 z) (getI acc (joinI q.1 z) - q.2))
    have b := wabs_put (joinI q.1 z) q.2 acc nd
    omega
theorem wabs_filter (f : List Int × Int → Bool) : ∀ ps : ID, wabs (ps.filter f) ≤ wabs ps
  | [] => Nat.le_refl _
  | p :: ps => by
    have := wabs_filter f ps
    rw [List.filter_cons]
    split <;> simp only [wabs] <;> omega
theorem wabs_sign {n : Nat} : ∀ (zeros : List (List Int)) (m : Nat) (ps : ID), IdOk n m ps → (∀ z ∈ zeros, z.length = n) → wabs (zeros.foldl (fun ps z => (stepI ps z).filter fun p => !decide (p.2 = 0)) ps) ≤ wabs ps * 2 ^ zeros.length
  | [], _, ps, _, _ => by simp
  | z :: zs, m, ps, ok, hz => by
    have lz := hz z List.mem_cons_self
    rw [List.foldl_cons, List.length_cons]
    refine Nat.le_trans (wabs_sign zs (m + m) _ ((ok.step lz).filter _) fun y hy => hz y (List.mem_cons_of_mem _ hy)) ?_
    have a := wabs_filter (fun p => !decide (p.2 = 0)) (stepI ps z)
    have b : wabs (stepI ps z) ≤ wabs ps + wabs ps := wabs_fold z ps ps ok.nd
    rw [Nat.pow_succ]
    have c : wabs ((stepI ps z).filter fun p => !decide (p.2 = 0)) ≤ wabs ps * 2 := by omega
    calc _ ≤ wabs ps * 2 * 2 ^ zs.length := Nat.mul_le_mul_right _ c
      _ = _ := by rw [Nat.mul_assoc, Nat.mul_comm 2]
/-- the sum so far is small -/
theorem wsum_small {f : List Int → Int} {M : Nat} : ∀ ps : ID, (∀ p ∈ ps, (f p.1).natAbs ≤ M) → (wsum f ps).natAbs ≤ wabs ps * M
  | [], _ => by simp [wsum, wabs]
  | p :: ps, h => by
    have a := wsum_small ps fun q hq => h q (List.mem_cons_of_mem _ hq)
    have b : (p.2 * f p.1).natAbs ≤ p.2.natAbs * M := by rw [Int.natAbs_mul]; exact Nat.mul_le_mul_left _ (h p List.mem_cons_self)
    rw [wsum, wabs, Nat.add_mul]
    omega
theorem wabs_take : ∀ (ps : ID) (i : Nat), wabs (ps.take i) ≤ wabs ps
  | [], _ => by simp
  | p :: ps, 0 => by simp [wabs]
  | p :: ps, i + 1 => by
    have := wabs_take ps i
    rw [List.take_succ_cons, wabs, wabs]
    omega
theorem preSum_wsum (f : List Int → Int) (ps : ID) : ∀ i, i ≤ ps.length → preSum (fun i => (ps.getD i ([], 0)).2 * f (ps.getD i ([], 0)).1) i = wsum f (ps.take i)
  | 0, _ => by simp [preSum, wsum]
  | i + 1, h => by
    have hi : i < ps.length := h
    have tk : ps.take (i + 1) = ps.take i ++ [ps.getD i ([], 0)] := by simp [List.getD, List.getElem?_eq_getElem hi]
    rw [preSum, preSum_wsum f ps i (by omega), tk, wsum_append]
    simp [wsum]
theorem waysI_pos {us : List Str} {m : Int} (h6 : us.length ≤ 6) (h0 : 0 ≤ m) (h1 : m < 2 ^ us.length) : 0 ≤ waysI (wholeI us) m ∧ waysI (wholeI us) m ≤ 64 := by
  obtain ⟨b1, b2, b3, b4, b5⟩ := bc_le h6 h0 h1
  have ew : wholeI us = 1 * 2 ^ us.length - 1 := by unfold wholeI; rw [Int.toNat_natCast]
  unfold waysI
  rw [ew]
  split
  · omega
  · have all : ∀ n < 7, (0 : Int) ≤ 1 * 2 ^ n ∧ (1 : Int) * 2 ^ n ≤ 64 := by decide
    exact all _ (by omega)
theorem prodI_cons (a : Int) (l : List Int) : prodI (a :: l) = a * prodI l := by
  have : ∀ (l : List Int) (c : Int), l.foldl (· * ·) c = c * l.foldl (· * ·) 1 := by
    intro l
    induction l with
    | nil => intro c; simp
    | cons b l ih => intro c; rw [List.foldl_cons, ih, List.foldl_cons, ih (1 * b), Int.one_mul, Int.mul_assoc]
  unfold prodI
  rw [List.foldl_cons, this, Int.one_mul]
theorem boxWays_small : ∀ {fs : List (List Str)} {k : List Int}, MaskOk fs k → (∀ us ∈ fs, us.length ≤ 6) → 0 ≤ boxWays fs k ∧ (boxWays fs k).natAbs ≤ 64 ^ fs.length
  | [], [], _, _ => by decide
  | [], _ :: _, h, _ => by have := h.len; simp at this
  | _ :: _, [], h, _ => by have := h.len; simp at this
  | us :: fs, m :: k, h, h6 => by
    obtain ⟨m0, m1⟩ := h.mem 0 us m rfl rfl
    have ih := boxWays_small (fs := fs) (k := k) ⟨by have := h.len; simpa using this, fun i us m hu hm => h.mem (i + 1) us m (by simpa using hu) (by simpa using hm)⟩ fun us hu => h6 us (List.mem_cons_of_mem _ hu)
    have w := waysI_pos (h6 us List.mem_cons_self) m0 m1
    have e : boxWays (us :: fs) (m :: k) = waysI (wholeI us) m * boxWays fs k := by unfold boxWays; rw [waysL, prodI_cons]
    rw [e]
    refine ⟨Int.mul_nonneg w.1 ih.1, ?_⟩
    rw [Int.natAbs_mul, List.length_cons, Nat.pow_succ, Nat.mul_comm (64 ^ _)]
    exact Nat.mul_le_mul (by omega) ih.2
def zeroI (fs : List (List Str)) : List Int := fs.map fun _ => 0
theorem zeroI_ok (fs : List (List Str)) : MaskOk fs (zeroI fs) := ⟨by simp [zeroI], fun i us m hu hm => by
  unfold zeroI at hm
  rw [List.getElem?_map, hu] at hm
  cases hm
  exact ⟨Int.le_refl _, Int.pow_pos (by decide)⟩⟩
theorem boxOf_ok {fs : List (List Str)} : ∀ {ks : List (List Int)} {st : List Int}, (∀ k ∈ ks, MaskOk fs k) → MaskOk fs st → MaskOk fs (boxOf ks st)
  | [], _, _, h => h
  | k :: ks, st, hk, h => boxOf_ok (ks := ks) (st := joinI st k) (fun x hx => hk x (List.mem_cons_of_mem _ hx)) (h.join (hk k List.mem_cons_self))
/-- the boxes that fit -/
def countI (fs : List (List Str)) (os zs : List (List Int)) : Int := wsum (boxWays fs) (signI (boxOf os (zeroI fs)) zs)
end SB
set_option Elab.async false
set_option linter.all false
set_option maxRecDepth 100000
set_option maxHeartbeats 4000000
/-! list + list, xs[::-1] -/
namespace DL
open PySem PySem.Spec PyProof.Rows L2
section
variable {X : Cx} {T : List Addr} {B : Bk} {a b e : Expr} {ρ : Rho} {S S1 S2 : Sto} {d d' : D} {xs ys : List D} {pos : Pos}
theorem Rep.lstR {K : PySem.W.Frag} {M : List Addr} {H : Hp} {v : V} {ds : List D} (r : Rep K M H v (.lst ds)) : ∃ a vs, v = .ref a ∧ Rd H a (.lst vs) ∧ Reps K M H vs ds := by
  cases r with
  | lst n k q => exact ⟨_, _, rfl, k, q⟩
theorem Vw.lstR {K : PySem.W.Frag} {H : Hp} {v : V} (h : Vw S d (.lst xs)) (g : GoodS K T H S) (r : Rep K (mm S) H v d) : ∃ a vs, v = .ref a ∧ Rd H a (.lst vs) ∧ Reps K (mm S) H vs xs := by
  rcases h with h | ⟨l, h, hm⟩
  · subst h; exact r.lstR
  · subst h
    cases r
    obtain ⟨vs, h1, h2⟩ := g.own _ hm
    exact ⟨_, vs, rfl, .inl h1, h2⟩
def rCatR : R2 := fun x y H Q => ∃ l b xs zs, x = .ref l ∧ y = .ref b ∧ Rd H l (.lst xs) ∧ Rd H b (.lst zs) ∧ xs.length + zs.length ≤ sizeLine ∧ ∀ p, H p = none → Q (.ref p) (upd H p (.lst (xs ++ zs)))
theorem op_catR : OpR X (binaryOp .Add) rCatR := by
  intro pins s σ H x y v u Q I rx ry h
  obtain ⟨l, b, xs, zs, rfl, rfl, hH, hB, hz, q⟩ := h
  cases rx
  cases ry
  obtain ⟨z, its, n, r, e⟩ := hH.ok I.hok
  obtain ⟨z2, its2, n2, r2, e2⟩ := hB.ok I.hok
  have hl := r.length
  have hl2 := r2.length
  refine PySem.P.add_list e e2 ?_ (by rw [List.size_toArray, List.size_toArray]; omega)
  have ea : its.toArray ++ its2.toArray = (its ++ its2).toArray := by simp
  rw [ea]
  exact ⟨.ref _, _, I.lnew (t' := s.toks) (r.append r2) (by rw [List.length_append]; omega), rfl, q _ I.fresh⟩
theorem dn_catL (ha : DX X T B a ρ S d S1) (hb : DX X T B b ρ S1 d' S2) (hx : Vw S2 d (.lst xs)) (hy : Vw S2 d' (.lst ys)) (h : xs.length + ys.length ≤ 100000) : DN X T B (.BinOp a .Add b pos) ρ S (xs ++ ys) S2 := fun σ H g s => by
  refine wE_of (pe_op op_catR pe_w pe_w) (wE_mono (ha σ H g s) fun v1 H1 ⟨d1, T1, ⟨e1, e2⟩, r1, g1, x1⟩ => ?_)
  subst e1; subst e2
  refine wE_mono (hb σ H1 g1 (s.ext x1)) fun v2 H2 ⟨d2, T2, ⟨e3, e4⟩, r2, g2, x2⟩ => ?_
  subst e3; subst e4
  obtain ⟨q1, w1, e1, e2, e3⟩ := hx.lstR g2.g (r1.ext x2)
  obtain ⟨q2, w2, f1, f2, f3⟩ := hy.lstR g2.g r2
  subst e1; subst f1
  exact ⟨q1, q2, w1, w2, rfl, rfl, e2, f2, by rw [e3.length, f3.length]; exact Nat.le_trans h (by decide), fun p hp => Pt.newL (e3.append f3) g2 (x1.trans x2) hp⟩
theorem dn_revL {k : Nat} {p1 p2 p3 : Pos} (ha : DX X T B a ρ S d S1) (hx : Vw S1 d (.lst xs)) : DN X T B (.Subscript a (.Slice none none (some (.UnaryOp .USub (.Constant (.int 1) k p1) p2)) p3) pos) ρ S xs.reverse S1 := fun σ H g s => by
  refine wE_of (pe_revL pe_w) (wE_mono (ha σ H g s) fun v1 H1 ⟨d1, T1, ⟨e1, e2⟩, r1, g1, x1⟩ => ?_)
  subst e1; subst e2
  obtain ⟨q1, w1, e1, e2, e3⟩ := hx.lstR g1.g r1
  subst e1
  exact ⟨q1, w1, rfl, .inl e2, fun p hp => Pt.newL e3.reverse g1 x1 hp⟩
end
section
variable {X : Cx} {T : List Addr} {B : Bk} {a b e : Expr} {ρ : Rho} {S S1 S2 : Sto} {d d' : D} {xs ys : List D} {pos pos' : Pos} {Q : D → Sto → Prop} {P : DEnds} {rest : List Stmt}
/-- a, b = e -/
theorem ds_asg2E (i j : Nat) {n m : Str} {k : Nat} {p1 p2 : Pos} (hN : X.N.Nodup) (hc : X.calm = true) (he : DE X T B e ρ S Q) (kk : ∀ d S', Q d S' → ∃ d1 d2, d = .tup [d1, d2] ∧ P.nx ((ρ.set i (some d1)).set j (some d2)) S')
    (hi : X.N[i]? = some n := by rfl) (hj : X.N[j]? = some m := by rfl) (hx : Loc X.env.scope n := by first | exact Or.inl rfl | exact Or.inr rfl) (hy : Loc X.env.scope m := by first | exact Or.inl rfl | exact Or.inr rfl)
    (hf : X.fn n = true ∨ X.env.scope.names.lookup n = some .local := by first | exact .inl rfl | exact .inr rfl) (hg : X.fn m = true ∨ X.env.scope.names.lookup m = some .local := by first | exact .inl rfl | exact .inr rfl)
    (hl : (assignEach [.Name n p1, .Name m p2] X.env).length = 2 := by rfl) (hst : (assignEach [.Name n p1, .Name m p2] X.env).findIdx? (·.1) = none := by rfl)
    (h1 : (assignEach [.Name n p1, .Name m p2] X.env).map (·.2) = assign (.Name n p1) X.env :: (assignEach [.Name m p2] X.env).map (·.2) := by rfl) (h2 : (assignEach [.Name m p2] X.env).map (·.2) = assign (.Name m p2) X.env :: (assignEach [] X.env).map (·.2) := by rfl)
    (hs : swapsWithSole [.Tuple [.Name n p1, .Name m p2] k pos'] e pos.line X.env = pure false := by rfl) (hw : swappedStores [.Tuple [.Name n p1, .Name m p2] k pos'] e X.env = pure none := by rfl)
    (ha : (assignEach [.Tuple [.Name n p1, .Name m p2] k pos'] X.env).map (·.2) = [assign (.Tuple [.Name n p1, .Name m p2] k pos') X.env] := by rfl) :
    DS X T B (.Assign [.Tuple [.Name n p1, .Name m p2] k pos'] e pos) ρ S P := fun σ H g s =>
  wS_of (ps_asg pe_w pg_w hs hw ha) (wE_mono (he σ H g s) fun v H1 ⟨d1, T1, q, r1, g1, x1⟩ => by
    obtain ⟨a1, a2, e, kk⟩ := kk _ _ q
    subst e
    exact wG_mono (dg_pair i j hN hc hi hj hx hy hf hg hl hst h1 h2 _ σ H1 v (s.ext x1) r1) fun σ' H' ⟨e3, s', _⟩ => by
      subst e3
      exact ⟨_, _, kk, g1, s'⟩)
theorem qs_asg2E (i j : Nat) {n m : Str} {k : Nat} {p1 p2 : Pos} (hN : X.N.Nodup) (hc : X.calm = true) (he : DE X T B e ρ S Q) (kk : ∀ d S', Q d S' → ∃ d1 d2, d = .tup [d1, d2] ∧ DSs X T B rest ((ρ.set i (some d1)).set j (some d2)) S' P)
    (hi : X.N[i]? = some n := by rfl) (hj : X.N[j]? = some m := by rfl) (hx : Loc X.env.scope n := by first | exact Or.inl rfl | exact Or.inr rfl) (hy : Loc X.env.scope m := by first | exact Or.inl rfl | exact Or.inr rfl)
    (hf : X.fn n = true ∨ X.env.scope.names.lookup n = some .local := by first | exact .inl rfl | exact .inr rfl) (hg : X.fn m = true ∨ X.env.scope.names.lookup m = some .local := by first | exact .inl rfl | exact .inr rfl)
    (hl : (assignEach [.Name n p1, .Name m p2] X.env).length = 2 := by rfl) (hst : (assignEach [.Name n p1, .Name m p2] X.env).findIdx? (·.1) = none := by rfl)
    (h1 : (assignEach [.Name n p1, .Name m p2] X.env).map (·.2) = assign (.Name n p1) X.env :: (assignEach [.Name m p2] X.env).map (·.2) := by rfl) (h2 : (assignEach [.Name m p2] X.env).map (·.2) = assign (.Name m p2) X.env :: (assignEach [] X.env).map (·.2) := by rfl)
    (hs : swapsWithSole [.Tuple [.Name n p1, .Name m p2] k pos'] e pos.line X.env = pure false := by rfl) (hw : swappedStores [.Tuple [.Name n p1, .Name m p2] k pos'] e X.env = pure none := by rfl)
    (ha : (assignEach [.Tuple [.Name n p1, .Name m p2] k pos'] X.env).map (·.2) = [assign (.Tuple [.Name n p1, .Name m p2] k pos') X.env] := by rfl) :
    DSs X T B (.Assign [.Tuple [.Name n p1, .Name m p2] k pos'] e pos :: rest) ρ S P := dss_cons (ds_asg2E i j hN hc he kk hi hj hx hy hf hg hl hst h1 h2 hs hw ha)
end
end DL
set_option Elab.async false
set_option linter.all false
set_option maxRecDepth 100000
set_option maxHeartbeats 4000000
/-! comprehensions over told items, with a filter -/
namespace DL
open PySem PySem.Spec PyProof.Rows L2
section
variable {X : Cx} {T : List Addr} {B : Bk} {elt tg iter : Expr} {ifs : List Expr} {scope : Scope} {own : List (Str × Nat)} {ρ : Rho} {S S1 : Sto} {xs ys : List D} {V : Sto → Prop} {pos pos' spos : Pos} {α : Type} {rest : List Stmt} {P : DEnds}
structure LcF (X : Cx) (T : List Addr) (B : Bk) (elt tg : Expr) (ifs : List Expr) (scope : Scope) (vs : List Nat) (ρ : Rho) (V : Sto → Prop) (S1 : Sto) {α : Type} (its : List α) (f : α → D) (p : α → Bool) (g : α → D) : Prop where
  hs : ∀ (i : Nat) a, its[i]? = some a → a ∈ its → ∃ ρ1 ix, (∀ j ∈ ix, j ∈ vs) ∧ (∀ s H C cl fp, DG (Cx.lc X scope s H C cl fp) tg (f a) (wipeR ρ vs) ρ1 ix) ∧
    (∀ s H C cl fp B' L acc, B.Le B' → DTs (Cx.lc X scope s H C cl fp) T B' ifs ρ1 (S1 ++ [(L, .lst acc)]) (p a) (S1 ++ [(L, .lst acc)])) ∧
    (p a = true → ∀ s H C cl fp B' L acc, B.Le B' → DX (Cx.lc X scope s H C cl fp) T B' elt ρ1 (S1 ++ [(L, .lst acc)]) (g a) (S1 ++ [(L, .lst acc)]))
theorem LcF.ok {its : List α} {f : α → D} {p : α → Bool} {g : α → D} {vs : List Nat} (h : LcF X T B elt tg ifs scope vs ρ V S1 its f p g) (h5 : its.length ≤ 100000) (hV : ∀ L acc, V (S1 ++ [(L, .lst acc)])) :
    LcOk X T B elt tg ifs scope vs ρ (its.map f) V S1 fun j acc S2 => acc = ((its.take j).filter p).map g ∧ S2 = S1 := by
  refine ⟨⟨rfl, rfl⟩, ?_, fun i acc S2 L e => by rw [e.2]; exact hV L acc⟩
  rintro i x acc S2 hx ⟨rfl, rfl⟩
  rw [List.getElem?_map] at hx
  obtain ⟨a, ha, rfl⟩ := Option.map_eq_some_iff.mp hx
  have hlt := (List.getElem?_eq_some_iff.mp ha).1
  obtain ⟨ρ1, ix, q1, q2, q3, q4⟩ := h.hs i a ha (List.mem_of_getElem? ha)
  have tk : its.take (i + 1) = its.take i ++ [a] := by rw [List.take_succ, ha]; rfl
  refine ⟨ρ1, ix, p a, S2, q1, q2, fun s H C cl fp B' L hB => q3 s H C cl fp B' L _ hB, fun hp => ⟨g a, S2, fun s H C cl fp B' L hB => q4 hp s H C cl fp B' L _ hB, ?_, ?_, rfl⟩, fun hp => ⟨?_, rfl⟩⟩
  · have := List.length_filter_le p (its.take i)
    rw [List.length_map]
    rw [List.length_take] at this
    omega
  · rw [tk, List.filter_append, List.map_append, List.filter_cons_of_pos hp]; rfl
  · rw [tk, List.filter_append, List.filter_cons_of_neg (by rw [hp]; decide)]; simp
theorem dn_lcf (its : List α) (f : α → D) (p : α → Bool) (g : α → D) (hc : X.calm = true) (hN : X.N.Nodup) (hi : DI X T B tg iter ρ S (its.map f) V S1) (ok : BlkOk X.N X.env.scope scope own) (h5 : its.length ≤ 100000) (hV : ∀ L acc, V (S1 ++ [(L, .lst acc)]))
    (h : LcF X T B elt tg ifs scope (own.map (·.2)) ρ V S1 its f p g) (hs : ∀ x, foldedSetIterable iter X.env x = pure x := by intro _; rfl) :
    DN X T B (.ListComp elt [⟨tg, iter, ifs, 0⟩] scope pos) ρ S ((its.filter p).map g) S1 := by
  refine (de_lc hc hN hi ok (h.ok h5 hV) hs).imp ?_
  rintro d S' ⟨acc, S2, l, ⟨rfl, rfl⟩, rfl, rfl⟩
  exact ⟨l, rfl, by rw [List.length_map, List.take_length]⟩
/-- .. without a test -/
theorem dn_lcm (its : List α) (f : α → D) (g : α → D) (hc : X.calm = true) (hN : X.N.Nodup) (hi : DI X T B tg iter ρ S (its.map f) V S1) (ok : BlkOk X.N X.env.scope scope own) (h5 : its.length ≤ 100000) (hV : ∀ L acc, V (S1 ++ [(L, .lst acc)]))
    (h : ∀ (i : Nat) a, its[i]? = some a → a ∈ its → ∃ ρ1 ix, (∀ j ∈ ix, j ∈ own.map (·.2)) ∧ (∀ s H C cl fp, DG (Cx.lc X scope s H C cl fp) tg (f a) (wipeR ρ (own.map (·.2))) ρ1 ix) ∧
      ∀ s H C cl fp B' L acc, B.Le B' → DX (Cx.lc X scope s H C cl fp) T B' elt ρ1 (S1 ++ [(L, .lst acc)]) (g a) (S1 ++ [(L, .lst acc)])) (hs : ∀ x, foldedSetIterable iter X.env x = pure x := by intro _; rfl) :
    DN X T B (.ListComp elt [⟨tg, iter, [], 0⟩] scope pos) ρ S (its.map g) S1 := by
  have := dn_lcf its f (fun _ => true) g hc hN hi ok h5 hV ⟨fun i a ha hm => by
    obtain ⟨ρ1, ix, q1, q2, q3⟩ := h i a ha hm
    exact ⟨ρ1, ix, q1, q2, fun s H C cl fp B' L acc _ => dts_nil, fun _ => q3⟩⟩ hs (pos := pos)
  rwa [List.filter_eq_self.mpr fun _ _ => rfl] at this
/-- y = [.. for .. in .. if ..] -/
theorem qs_asgLcf (i : Nat) {y : Str} (its : List α) (f : α → D) (p : α → Bool) (g : α → D) (hc : X.calm = true) (hN : X.N.Nodup) (hi : DI X T B tg iter ρ S (its.map f) V S1) (ok : BlkOk X.N X.env.scope scope own) (h5 : its.length ≤ 100000) (hV : ∀ L acc, V (S1 ++ [(L, .lst acc)]))
    (h : LcF X T B elt tg ifs scope (own.map (·.2)) ρ V S1 its f p g) (k : ∀ l, DSs X T B rest (ρ.set i (some (.ref l))) (S1 ++ [(l, .lst ((its.filter p).map g))]) P) (hy : X.N[i]? = some y := by rfl) (hyl : X.env.scope.names.lookup y = some .local := by rfl)
    (hsw : swapsWith (.ListComp elt [⟨tg, iter, ifs, 0⟩] scope pos) (some (.Name y pos')) spos.line X.env = pure true := by exact sw_true rfl rfl rfl (by decide +kernel)) (hs : ∀ x, foldedSetIterable iter X.env x = pure x := by intro _; rfl) :
    DSs X T B (.Assign [.Name y pos'] (.ListComp elt [⟨tg, iter, ifs, 0⟩] scope pos) spos :: rest) ρ S P := by
  refine dss_cons (ds_asgLc i hc hN hi ok (h.ok h5 hV) ?_ hy hyl hsw hs)
  rintro acc S2 l ⟨rfl, rfl⟩
  rw [List.length_map, List.take_length]
  exact k l
end
section
variable {X : Cx} {T : List Addr} {B : Bk} {c e : Expr} {ρ : Rho} {S S1 : Sto} {d0 d1 : D} {pos pos' spos : Pos} {rest : List Stmt} {P : DEnds} {k : Bool}
/-- if c: y = e -/
theorem qs_ifAsg (i : Nat) {n : Str} (hN : X.N.Nodup) (h : DT X T B c ρ S k S1) (h0 : ρ[i]? = some (some d0)) (he : k = true → DX X T B e ρ S1 d1 S1) (kk : DSs X T B rest (ρ.set i (some (if k then d1 else d0))) S1 P) (hi : X.N[i]? = some n := by rfl) (hx : Loc X.env.scope n := by first | exact Or.inl rfl | exact Or.inr rfl)
    (hs : swapsWith e (some (.Name n pos')) spos.line X.env = pure false := by rfl) (hf : X.fn n = true ∨ X.env.scope.names.lookup n = some .local := by first | exact .inl rfl | exact .inr rfl) : DSs X T B (.If c [.Assign [.Name n pos'] e spos] [] pos :: rest) ρ S P := by
  refine qs_if h (fun e1 => ?_) fun e1 => ?_
  · subst e1
    exact qs_asg i hN (he rfl) (qs_nil (by exact kk)) hi hx hs hf
  · subst e1
    refine qs_nil ?_
    have : ρ.set i (some d0) = ρ := set_same h0
    show DSs X T B rest ρ S1 P
    rw [← this]
    exact kk
end
end DL
set_option Elab.async false
set_option linter.all false
set_option maxRecDepth 100000
set_option maxHeartbeats 4000000
/-! dicts of any keys; keywords; sum of a list -/
namespace DL
open PySem PySem.Spec PyProof.Rows L2
section
variable {κ : Type} [DecidableEq κ]
/-- what stands at a key -/
def getG (gs : List (κ × D)) (k : κ) : Option D := (gs.find? fun g => decide (g.1 = k)).map (·.2)
def putG (gs : List (κ × D)) (k : κ) (d : D) : List (κ × D) :=
  if (gs.any fun g => decide (g.1 = k)) = true then gs.map (fun g => if g.1 = k then (g.1, d) else g) else gs ++ [(k, d)]
variable {K : PySem.W.Frag} {M : List Addr} {H : Hp}
theorem Reps.valG {k : κ} : ∀ {fs : List (κ × V)} {gs : List (κ × D)}, fs.map (·.1) = gs.map (·.1) → Reps K M H (fs.map (·.2)) (gs.map (·.2)) → (getG gs k = none ∧ L2.valV fs k = none) ∨ ∃ d v, getG gs k = some d ∧ L2.valV fs k = some v ∧ Rep K M H v d
  | [], [], _, _ => .inl ⟨rfl, rfl⟩
  | [], _ :: _, h, _ => by cases h
  | _ :: _, [], h, _ => by cases h
  | f :: fs, g :: gs, h, .cons q t => by
    have h1 : f.1 = g.1 := by injection h
    have h2 : fs.map (·.1) = gs.map (·.1) := by injection h
    unfold getG
    by_cases e : g.1 = k
    · rw [valV_pos (h1.trans e), List.find?_cons_of_pos (by simpa using e)]
      exact .inr ⟨_, _, rfl, rfl, q⟩
    · rw [valV_neg (fun z => e (h1.symm.trans z)), List.find?_cons_of_neg (by simpa using e)]
      exact Reps.valG h2 t
theorem any_keysG {k : κ} : ∀ {fs : List (κ × V)} {gs : List (κ × D)}, fs.map (·.1) = gs.map (·.1) → (fs.any fun f => decide (f.1 = k)) = gs.any fun g => decide (g.1 = k)
  | [], [], _ => rfl
  | [], _ :: _, h => by cases h
  | _ :: _, [], h => by cases h
  | f :: fs, g :: gs, h => by
    have h1 : f.1 = g.1 := by injection h
    have h2 : fs.map (·.1) = gs.map (·.1) := by injection h
    rw [List.any_cons, List.any_cons, h1, any_keysG h2]
theorem Reps.replG {k : κ} {v : V} {d : D} (r : Rep K M H v d) : ∀ {fs : List (κ × V)} {gs : List (κ × D)}, fs.map (·.1) = gs.map (·.1) → Reps K M H (fs.map (·.2)) (gs.map (·.2)) →
    (fs.map fun f => if f.1 = k then (f.1, v) else f).map (·.1) = (gs.map fun g => if g.1 = k then (g.1, d) else g).map (·.1) ∧ Reps K M H ((fs.map fun f => if f.1 = k then (f.1, v) else f).map (·.2)) ((gs.map fun g => if g.1 = k then (g.1, d) else g).map (·.2))
  | [], [], _, _ => ⟨rfl, .nil⟩
  | [], _ :: _, h, _ => by cases h
  | _ :: _, [], h, _ => by cases h
  | f :: fs, g :: gs, h, .cons q t => by
    have h1 : f.1 = g.1 := by injection h
    have h2 : fs.map (·.1) = gs.map (·.1) := by injection h
    obtain ⟨i1, i2⟩ := Reps.replG (k := k) r h2 t
    by_cases e : g.1 = k
    · simp only [List.map_cons, if_pos (h1.trans e), if_pos e]
      exact ⟨by rw [h1, i1], .cons r i2⟩
    · simp only [List.map_cons, if_neg (fun z => e (h1.symm.trans z)), if_neg e]
      exact ⟨by rw [h1, i1], .cons q i2⟩
theorem Reps.storesG {fs : List (κ × V)} {gs : List (κ × D)} {v : V} {d : D} (t : Reps K M H (fs.map (·.2)) (gs.map (·.2))) (h : fs.map (·.1) = gs.map (·.1)) (r : Rep K M H v d) (k : κ) :
    (putK fs k v).map (·.1) = (putG gs k d).map (·.1) ∧ Reps K M H ((putK fs k v).map (·.2)) ((putG gs k d).map (·.2)) := by
  unfold putK putG
  rw [any_keysG h]
  split
  · exact Reps.replG r h t
  · rw [List.map_append, List.map_append, List.map_append, List.map_append, h]
    exact ⟨rfl, t.append (.cons r .nil)⟩
theorem putG_len (gs : List (κ × D)) (k : κ) (d : D) : (putG gs k d).length ≤ gs.length + 1 := by
  unfold putG
  split
  · rw [List.length_map]; omega
  · rw [List.length_append]; simp
end
/-- d is a dict of ints, texts -/
def DvK (S : Sto) (d : D) (gs : List (L2.Key × D)) : Prop := d = .dK gs ∨ d = .dKF gs ∨ ∃ l, d = .ref l ∧ (l, .dK gs) ∈ S
def DvT (S : Sto) (d : D) (gs : List (List L2.Key × D)) : Prop := d = .dT gs ∨ ∃ l, d = .ref l ∧ (l, .dT gs) ∈ S
section
variable {X : Cx} {T : List Addr} {B : Bk} {a b c e v : Expr} {ρ : Rho} {S S1 S2 S3 S' : Sto} {d y z : D} {pos p apos cpos : Pos} {es : List Expr} {P : D → Sto → Prop} {i : Int}
theorem DvK.dat {S : Sto} {gs : List (L2.Key × D)} : DvK S (.dK gs) gs := .inl rfl
theorem DvK.fz {S : Sto} {gs : List (L2.Key × D)} : DvK S (.dKF gs) gs := .inr (.inl rfl)
theorem DvK.own {S : Sto} {l : Addr} {gs : List (L2.Key × D)} (h : (l, .dK gs) ∈ S) : DvK S (.ref l) gs := .inr (.inr ⟨l, rfl, h⟩)
theorem DvT.dat {S : Sto} {gs : List (List L2.Key × D)} : DvT S (.dT gs) gs := .inl rfl
theorem DvT.own {S : Sto} {l : Addr} {gs : List (List L2.Key × D)} (h : (l, .dT gs) ∈ S) : DvT S (.ref l) gs := .inr ⟨l, rfl, h⟩
theorem DvK.rd {K : PySem.W.Frag} {H : Hp} {v : V} {gs : List (L2.Key × D)} (h : DvK S d gs) (g : GoodS K T H S) (r : Rep K (mm S) H v d) : ∃ a fs, v = .ref a ∧ Rd H a (.dK fs) ∧ fs.map (·.1) = gs.map (·.1) ∧ Reps K (mm S) H (fs.map (·.2)) (gs.map (·.2)) := by
  rcases h with h | h | ⟨l, h, hm⟩
  · subst h
    cases r with
    | dK n h1 h2 h3 => exact ⟨_, _, rfl, h1, h2, h3⟩
  · subst h
    cases r with
    | dKF n h1 h2 h3 => exact ⟨_, _, rfl, .inr ⟨_, h1⟩, h2, h3⟩
  · subst h
    cases r
    obtain ⟨fs, h1, h2, h3⟩ := g.own _ hm
    exact ⟨_, _, rfl, .inl h1, h2, h3⟩
theorem DvT.rd {K : PySem.W.Frag} {H : Hp} {v : V} {gs : List (List L2.Key × D)} (h : DvT S d gs) (g : GoodS K T H S) (r : Rep K (mm S) H v d) : ∃ a fs, v = .ref a ∧ Rd H a (.dT fs) ∧ fs.map (·.1) = gs.map (·.1) ∧ Reps K (mm S) H (fs.map (·.2)) (gs.map (·.2)) := by
  rcases h with h | ⟨l, h, hm⟩
  · subst h
    cases r with
    | dT n h1 h2 h3 => exact ⟨_, _, rfl, h1, h2, h3⟩
  · subst h
    cases r
    obtain ⟨fs, h1, h2, h3⟩ := g.own _ hm
    exact ⟨_, _, rfl, .inl h1, h2, h3⟩
theorem Rep.keyK {K : PySem.W.Frag} {M : List Addr} {H : Hp} {v : V} {k : L2.Key} (r : Rep K M H v (kD k)) : v = kV k := by
  cases k with
  | inl i => cases r; rfl
  | inr i => cases r; rfl
/-- {} -/
theorem de_newK : DE X T B (.Dict [] [] pos) ρ S (fun d S' => ∃ l, d = .ref l ∧ S' = S ++ [(l, .dK [])]) := fun σ H g s =>
  wE_of pe_dnewK fun l hl => by
    have x0 : Ext (mm S) (mm (S ++ [(l, .dK [])])) H (upd H l (.dK [])) := by rw [mm_append]; exact Ext.newO hl
    exact ⟨_, _, ⟨l, rfl, rfl⟩, .ref l, g.to x0 (g.g.newO hl ⟨[], upd_same, rfl, .nil⟩), x0⟩
theorem de_newT : DE X T B (.Dict [] [] pos) ρ S (fun d S' => ∃ l, d = .ref l ∧ S' = S ++ [(l, .dT [])]) := fun σ H g s =>
  wE_of pe_dnewT fun l hl => by
    have x0 : Ext (mm S) (mm (S ++ [(l, .dT [])])) H (upd H l (.dT [])) := by rw [mm_append]; exact Ext.newO hl
    exact ⟨_, _, ⟨l, rfl, rfl⟩, .ref l, g.to x0 (g.g.newO hl ⟨[], upd_same, rfl, .nil⟩), x0⟩
/-- a tuple display, told plainly -/
theorem dx_tupPl {ds : List D} {x1 : Nat} (h : DA X T B es ρ S ds S') (hl : ds.length ≤ 100000) : DX X T B (.Tuple es x1 pos) ρ S (.tupP ds) S' := fun σ H g s =>
  wE_of (pe_tup pa_w) (wA_mono (h σ H g s) fun vs H1 ⟨r1, g1, x1⟩ => ⟨by rw [r1.length]; exact Nat.le_trans hl (by decide), fun p hp => by
    have x2 : Ext (mm S') (mm S') H1 (upd H1 p (.tup vs)) := Ext.new1 hp
    have np : p ∉ mm S' := fun z => by
      obtain ⟨o, h, _⟩ := g1.g.memM z
      rw [hp] at h; cases h
    exact ⟨_, _, ⟨rfl, rfl⟩, .tupP np upd_same (r1.ext x2), g1.to x2 (g1.g.new1 hp), x1.trans x2⟩⟩)
/-- d[k] -/
theorem dx_subK {gs : List (L2.Key × D)} {k : L2.Key} (hu : X.A.units + 1 < cLine) (ha : DX X T B a ρ S d S1) (hb : DX X T B b ρ S1 (kD k) S2) (hv : DvK S2 d gs) (hz : getG gs k = some z) (hs : NoSl b := by exact fun _ _ => rfl) : DX X T B (.Subscript a b pos) ρ S z S2 := fun σ H g s =>
  wE_of (pe_dget hu pe_w pe_w hs) (wE_mono (ha σ H g s) fun v1 H1 ⟨d1, T1, ⟨e1, e2⟩, r1, g1, x1⟩ => by
    subst e1; subst e2
    refine wE_mono (hb σ H1 g1 (s.ext x1)) fun v2 H2 ⟨d2, T2, ⟨e3, e4⟩, r2, g2, x2⟩ => ?_
    subst e3; subst e4
    obtain ⟨q, fs, rfl, hr, ef, rf⟩ := hv.rd g2.g (r1.ext x2)
    rcases Reps.valG (k := k) ef rf with ⟨n1, _⟩ | ⟨d', v', n1, n2, n3⟩
    · rw [hz] at n1; cases n1
    · rw [hz] at n1; cases n1
      exact ⟨q, v', rfl, .inl ⟨fs, k, hr, r2.keyK, n2.symm⟩, _, _, ⟨rfl, rfl⟩, n3, g2, x1.trans x2⟩)
theorem dx_subT {gs : List (List L2.Key × D)} {ks : List L2.Key} (hu : X.A.units + 1 < cLine) (ha : DX X T B a ρ S d S1) (hb : DX X T B b ρ S1 (.tupP (ks.map kD)) S2) (hv : DvT S2 d gs) (hz : getG gs ks = some z) (hs : NoSl b := by exact fun _ _ => rfl) : DX X T B (.Subscript a b pos) ρ S z S2 := fun σ H g s =>
  wE_of (pe_dget hu pe_w pe_w hs) (wE_mono (ha σ H g s) fun v1 H1 ⟨d1, T1, ⟨e1, e2⟩, r1, g1, x1⟩ => by
    subst e1; subst e2
    refine wE_mono (hb σ H1 g1 (s.ext x1)) fun v2 H2 ⟨d2, T2, ⟨e3, e4⟩, r2, g2, x2⟩ => ?_
    subst e3; subst e4
    obtain ⟨q, fs, rfl, hr, ef, rf⟩ := hv.rd g2.g (r1.ext x2)
    obtain ⟨x, rfl, hk, _⟩ := r2.key
    rcases Reps.valG (k := ks) ef rf with ⟨n1, _⟩ | ⟨d', v', n1, n2, n3⟩
    · rw [hz] at n1; cases n1
    · rw [hz] at n1; cases n1
      exact ⟨q, v', rfl, .inr ⟨fs, ks, x, hr, rfl, hk, n2.symm⟩, _, _, ⟨rfl, rfl⟩, n3, g2, x1.trans x2⟩)
/-- d.get(k, z) -/
theorem dx_getK {gs : List (L2.Key × D)} {k : L2.Key} {g0 : List (L2.Key × D)} (hu : X.A.units + 1 < cLine) (ha : DX X T B a ρ S d S1) (h0 : DvK S1 d g0) (hb : DX X T B b ρ S1 (kD k) S2) (hx : DX X T B c ρ S2 z S3) (hv : DvK S3 d gs) (hz : y = (getG gs k).getD z) (m : M2 X a "get" apos b c cpos) :
    DX X T B (.Call (.Attribute a "get" apos) [b, c] [] cpos) ρ S y S3 := fun σ H g s =>
  wE_of (pe_dget2 hu pe_w pe_w pe_w m) (wE_mono (ha σ H g s) fun v1 H1 ⟨d1, T1, ⟨e1, e2⟩, r1, g1, x1⟩ => by
    subst e1; subst e2
    obtain ⟨q, f0, rfl, q0, _, _⟩ := h0.rd g1.g r1
    refine ⟨q, rfl, .inl ⟨f0, q0⟩, wE_mono (hb σ H1 g1 (s.ext x1)) fun v2 H2 ⟨d2, T2, ⟨e3, e4⟩, r2, g2, x2⟩ => ?_⟩
    subst e3; subst e4
    refine wE_mono (hx σ H2 g2 (s.ext (x1.trans x2))) fun v3 H3 ⟨d3, T3, ⟨e5, e6⟩, r3, g3, x3⟩ => ?_
    subst e5; subst e6
    obtain ⟨q', fs, e7, hr, ef, rf⟩ := hv.rd g3.g ((r1.ext x2).ext x3)
    cases e7
    refine ⟨_, .inl ⟨fs, k, hr, r2.keyK, rfl⟩, _, _, ⟨rfl, rfl⟩, ?_, g3, (x1.trans x2).trans x3⟩
    rcases Reps.valG (k := k) ef rf with ⟨n1, n2⟩ | ⟨d', v', n1, n2, n3⟩
    · rw [hz, n1, n2]; exact r3
    · rw [hz, n1, n2]; exact n3)
/-- d[k] = v -/
theorem qs_putKk {j : Nat} {l : Addr} {gs : List (L2.Key × D)} {k : L2.Key} {P : DEnds} {pos' : Pos} {rest : List Stmt} (hu : X.A.units + 1 < cLine) (hv : DX X T B v ρ S y S1) (ha : DX X T B a ρ S1 (.ref l) S2) (hb : DX X T B b ρ S2 (kD k) S3) (hi : S3[j]? = some (l, .dK gs)) (hz : gs.length < 100000)
    (kk : DSs X T B rest ρ (S3.set j (l, .dK (putG gs k y))) P) (hs : swapsWith v (some (.Subscript a b pos')) pos.line X.env = pure false := by rfl) : DSs X T B (.Assign [.Subscript a b pos'] v pos :: rest) ρ S P := dss_cons fun σ H g s =>
  wS_of (ps_dput hu pe_w pe_w pe_w hs) (wE_mono (hv σ H g s) fun v1 H1 ⟨d1, T1, ⟨e1, e2⟩, r1, g1, x1⟩ => by
    subst e1; subst e2
    refine wE_mono (ha σ H1 g1 (s.ext x1)) fun v2 H2 ⟨d2, T2, ⟨e3, e4⟩, r2, g2, x2⟩ => ?_
    subst e3; subst e4; cases r2
    refine wE_mono (hb σ H2 g2 (s.ext (x1.trans x2))) fun v3 H3 ⟨d3, T3, ⟨e5, e6⟩, r3, g3, x3⟩ => ?_
    subst e5; subst e6
    have e7 := r3.keyK
    subst e7
    obtain ⟨fs, hf, ef, rf⟩ := g3.g.own (l, .dK gs) (List.mem_of_getElem? hi)
    have lf : fs.length = gs.length := by have := congrArg List.length ef; simpa using this
    have xw : Ext (mm T3) (mm (T3.set j (l, D.dK (putG gs k d1)))) H3 (upd H3 l (.dK (putK fs k v1))) := Ext.write g3.g hi
    have xv := xw
    rw [mm_set _ _ _ _ _ hi] at xv
    have q1 := ((r1.ext x2).ext x3).ext xv
    have q2 := (rf.ext xv).storesG ef q1 k
    have g4 := g3.g.write (o := .dK (putK fs k v1)) (d := .dK (putG gs k d1)) hi ⟨_, upd_same, q2.1, q2.2⟩
    have xa := ((x1.trans x2).trans x3).trans xw
    exact ⟨l, _, rfl, DPut.k hf (by rw [lf]; exact Nat.lt_trans hz (by decide)), _, _, kk, g.to xa g4, s.ext xa⟩)
theorem qs_putKt {j : Nat} {l : Addr} {gs : List (List L2.Key × D)} {ks : List L2.Key} {P : DEnds} {pos' : Pos} {rest : List Stmt} (hu : X.A.units + 1 < cLine) (hv : DX X T B v ρ S y S1) (ha : DX X T B a ρ S1 (.ref l) S2) (hb : DX X T B b ρ S2 (.tupP (ks.map kD)) S3) (hi : S3[j]? = some (l, .dT gs)) (hz : gs.length < 100000)
    (kk : DSs X T B rest ρ (S3.set j (l, .dT (putG gs ks y))) P) (hs : swapsWith v (some (.Subscript a b pos')) pos.line X.env = pure false := by rfl) : DSs X T B (.Assign [.Subscript a b pos'] v pos :: rest) ρ S P := dss_cons fun σ H g s =>
  wS_of (ps_dput hu pe_w pe_w pe_w hs) (wE_mono (hv σ H g s) fun v1 H1 ⟨d1, T1, ⟨e1, e2⟩, r1, g1, x1⟩ => by
    subst e1; subst e2
    refine wE_mono (ha σ H1 g1 (s.ext x1)) fun v2 H2 ⟨d2, T2, ⟨e3, e4⟩, r2, g2, x2⟩ => ?_
    subst e3; subst e4; cases r2
    refine wE_mono (hb σ H2 g2 (s.ext (x1.trans x2))) fun v3 H3 ⟨d3, T3, ⟨e5, e6⟩, r3, g3, x3⟩ => ?_
    subst e5; subst e6
    obtain ⟨x, ex, hk, _⟩ := r3.key
    subst ex
    obtain ⟨fs, hf, ef, rf⟩ := g3.g.own (l, .dT gs) (List.mem_of_getElem? hi)
    have lf : fs.length = gs.length := by have := congrArg List.length ef; simpa using this
    have xw : Ext (mm T3) (mm (T3.set j (l, D.dT (putG gs ks d1)))) H3 (upd H3 l (.dT (putK fs ks v1))) := Ext.write g3.g hi
    have xv := xw
    rw [mm_set _ _ _ _ _ hi] at xv
    have q1 := ((r1.ext x2).ext x3).ext xv
    have q2 := (rf.ext xv).storesG ef q1 ks
    have g4 := g3.g.write (o := .dT (putK fs ks v1)) (d := .dT (putG gs ks d1)) hi ⟨_, upd_same, q2.1, q2.2⟩
    have xa := ((x1.trans x2).trans x3).trans xw
    exact ⟨l, _, rfl, DPut.t hf hk (by rw [lf]; exact Nat.lt_trans hz (by decide)), _, _, kk, g.to xa g4, s.ext xa⟩)
/-- len(d) -/
def rLenR : List V → Hp → VK → Prop := fun xs H Q => ∃ (p : Addr) (n : Nat), xs = [.ref p] ∧ ((∃ kvs : List (L2.Key × V), Rd H p (.dK kvs) ∧ n = kvs.length) ∨ ∃ kvs : List (List L2.Key × V), Rd H p (.dT kvs) ∧ n = kvs.length) ∧ Q (.int (n : Nat)) H
theorem call_lenR : CallR X (.builtin "len") rLenR := by
  intro pins s σ H xs us Q I r h
  obtain ⟨p, n, rfl, hp, q⟩ := h
  obtain ⟨u, rfl, rx⟩ := vals1 r
  obtain rfl : u = .ref p := rx
  rcases hp with ⟨kvs, hp, rfl⟩ | ⟨kvs, hp, rfl⟩
  · exact d_len I hp fun t s' I' => ⟨.int kvs.length, H, I', ⟨t, rfl⟩, q⟩
  · obtain ⟨z, hd, ys, rel, dd⟩ := dt_rd I.hok hp
    have hl : kvs.length = ys.length := Paired.length rel
    refine call_len_dictH hd dd (by rw [← hl]; rw [sizeLine_eq] at z; omega) ?_
    rw [← hl]
    exact ⟨.int ((kvs.length : Nat) : Int), H, I.tok _, ⟨_, rfl⟩, q⟩
theorem dx_lenK {gs : List (L2.Key × D)} (hm : X.mg "len" = none) (hg : Gl X "len") (ha : DX X T B a ρ S d S1) (hv : DvK S1 d gs) (h1 : starEach (a :: []) X.env = (false, eval a X.env) :: starEach [] X.env := by rfl) : DX X T B (.Call (.Name "len" p) [a] [] pos) ρ S (.int (gs.length : Nat)) S1 :=
  de_callB (r := rLenR) call_lenR (fun _ _ _ _ m ⟨p, n, e, h, q⟩ => ⟨p, n, e, h, m _ _ q⟩) hg hm PySem.boot_len (da_cons ha da_nil h1) (fun H vs g r => by
    cases r with
    | cons r1 r2 =>
      cases r2
      obtain ⟨q, fs, rfl, hr, ef, rf⟩ := hv.rd g.g r1
      have lf : fs.length = gs.length := by have := congrArg List.length ef; simpa using this
      exact ⟨q, fs.length, rfl, .inl ⟨fs, hr, rfl⟩, Pt.here ⟨rfl, rfl⟩ g (by rw [lf]; exact .int _)⟩) (he := h1)
theorem dx_lenDT {gs : List (List L2.Key × D)} (hm : X.mg "len" = none) (hg : Gl X "len") (ha : DX X T B a ρ S d S1) (hv : DvT S1 d gs) (h1 : starEach (a :: []) X.env = (false, eval a X.env) :: starEach [] X.env := by rfl) : DX X T B (.Call (.Name "len" p) [a] [] pos) ρ S (.int (gs.length : Nat)) S1 :=
  de_callB (r := rLenR) call_lenR (fun _ _ _ _ m ⟨p, n, e, h, q⟩ => ⟨p, n, e, h, m _ _ q⟩) hg hm PySem.boot_len (da_cons ha da_nil h1) (fun H vs g r => by
    cases r with
    | cons r1 r2 =>
      cases r2
      obtain ⟨q, fs, rfl, hr, ef, rf⟩ := hv.rd g.g r1
      have lf : fs.length = gs.length := by have := congrArg List.length ef; simpa using this
      exact ⟨q, fs.length, rfl, .inr ⟨fs, hr, rfl⟩, Pt.here ⟨rfl, rfl⟩ g (by rw [lf]; exact .int _)⟩) (he := h1)
/-- dict(d): a new one -/
abbrev rDictR : List V → Hp → VK → Prop := fun xs H Q => ∃ (a : Addr) (kvs : List (L2.Key × V)), xs = [.ref a] ∧ Rd H a (.dK kvs) ∧ ∀ p, H p = none → Q (.ref p) (upd H p (.dK kvs))
theorem de_copyK {gs : List (L2.Key × D)} (hm : X.mg "dict" = none) (hg : Gl X "dict") (ha : DX X T B a ρ S d S1) (hv : DvK S1 d gs) (h1 : starEach (a :: []) X.env = (false, eval a X.env) :: starEach [] X.env := by rfl) :
    DE X T B (.Call (.Name "dict" p) [a] [] pos) ρ S (fun d S' => ∃ l, d = .ref l ∧ S' = S1 ++ [(l, .dK gs)]) :=
  de_callTy (r := rDictR) call_dictD (fun _ _ _ _ m ⟨p, n, e, h, q⟩ => ⟨p, n, e, h, fun l hl => m _ _ (q l hl)⟩) hg hm (by decide +kernel) (da_cons ha da_nil h1) (fun H vs g r => by
    cases r with
    | cons r1 r2 =>
      cases r2
      obtain ⟨q, fs, rfl, hr, ef, rf⟩ := hv.rd g.g r1
      refine ⟨q, fs, rfl, hr, fun l hl => ?_⟩
      have x0 : Ext (mm S1) (mm (S1 ++ [(l, .dK gs)])) H (upd H l (.dK fs)) := by rw [mm_append]; exact Ext.newO hl
      refine ⟨_, _, ⟨l, rfl, rfl⟩, .ref l, g.to x0 (g.g.newO hl ⟨fs, upd_same, ef, ?_⟩), x0⟩
      rw [← show mm (S1 ++ [(l, D.dK gs)]) = mm S1 ++ [l] from mm_append S1 [(l, .dK gs)]]
      exact rf.ext x0) (he := h1)
/-- for k in d, d locked for good -/
theorem di_keysF {tg : Expr} {gs : List (L2.Key × D)} (he : DX X T B e ρ S (.dKF gs) S1) : DI X T B tg e ρ S (gs.map fun g => kD g.1) (fun _ => True) S1 := fun σ H g s =>
  wI_of (pi_keys pe_w) (wE_mono (he σ H g s) fun v1 H1 ⟨d1, T1, ⟨e1, e2⟩, r1, g1, x1⟩ => by
    subst e1; subst e2
    cases r1 with
    | @dKF l o fs _ n h1 h2 h3 =>
      have lf : fs.length = gs.length := by have := congrArg List.length h2; simpa using this
      refine ⟨l, o, rfl, .inl ⟨fs, h1, g1, x1, fun i H2 S2 _ x2 g2 => ?_⟩⟩
      have q2 := x2.kp n h1 (fun _ z => by cases z)
      refine ⟨fun hi => ?_, fun hi => ⟨q2, by rw [lf, hi, List.length_map]; exact Nat.le_refl _⟩⟩
      rw [List.length_map] at hi
      refine ⟨⟨q2, by omega⟩, fun x H3 hy => ?_⟩
      obtain ⟨rfl, k, w, hk, rfl⟩ := hy
      have ek : k = gs[i].1 := by
        have q := congrArg (fun l : List L2.Key => l[i]?) h2
        simp only [List.getElem?_map, hk, List.getElem?_eq_getElem hi, Option.map_some] at q
        exact Option.some.inj q
      subst ek
      have kd : ∀ (H : Hp) (k : L2.Key), Rep X.K (mm S2) H (kV k) (kD k) := fun H k => match k with
        | .inl j => .int j
        | .inr j => .str j
      exact ⟨_, by rw [List.getElem?_map, List.getElem?_eq_getElem hi]; rfl, kd _ _, Ext.refl _ _, g2⟩)
/-- the last of the owned is locked for good: data from now on -/
theorem dss_lockK {i : Nat} {l : Addr} {gs : List (L2.Key × D)} {sts : List Stmt} {P : DEnds} (h : ρ[i]? = some (some (.ref l))) (k : DSs X T B sts (ρ.set i (some (.dKF gs))) S P) : DSs X T B sts ρ (S ++ [(l, .dK gs)]) P := fun σ H g s => by
  have hm : (l, D.dK gs) ∈ S ++ [(l, D.dK gs)] := mem_last
  obtain ⟨fs, hf, ef, rf⟩ := g.g.own _ hm
  have sub : S.Sublist (S ++ [(l, D.dK gs)]) := List.sublist_append_left _ _
  have inM : l ∈ mm (S ++ [(l, D.dK gs)]) := by rw [mm_append]; simp
  have nl : l ∉ mm S := fun z => by
    have nd := g.g.nd
    rw [mm_append] at nd
    exact (List.nodup_append.mp nd).2.2 l z l (by show l ∈ [l]; simp) rfl
  have x0 : ∀ od, Ext (mm (S ++ [(l, D.dK gs)])) (mm S) H (upd H l (.frz od (.dK fs))) := fun od => ⟨fun a o ha q => .inl ((upd_ne fun z => ha (by rw [z]; exact inM)).trans q), fun a h n => absurd (mm_sub sub a h) n⟩
  have ne : ∀ p ∈ S, p.1 ≠ l := fun p hp z => nl (by rw [← z]; exact List.mem_map.mpr ⟨p, hp, rfl⟩)
  have g0 : ∀ od, GoodS X.K T (upd H l (.frz od (.dK fs))) S := fun od => ⟨fun p hp => (g.g.own p (sub.subset hp)).ext (x0 od) fun o q => (upd_ne (ne p hp)).trans q, (g.g.less sub).nd, fun P hP => by
    obtain ⟨ps, h1, h2⟩ := g.g.tab P hP
    exact ⟨ps, (upd_ne fun z => by rw [z, hf] at h1; cases h1).trans h1, h2⟩⟩
  refine ⟨fun pins st I => ?_⟩
  obtain ⟨od, I2⟩ := I.lock hf trivial
  have rl : Rep X.K (mm S) (upd H l (.frz od (.dK fs))) (.ref l) (.dKF gs) := .dKF nl upd_same ef (rf.ext (x0 od))
  have s1 := s.ext (x0 od)
  have s2 : Slots X.K (mm S) (upd H l (.frz od (.dK fs))) σ (ρ.set i (some (.dKF gs))) := by
    obtain ⟨v, hv, hr⟩ := s1.at_ i _ h
    cases hr
    refine ⟨by rw [List.length_set]; exact s1.len, fun j d q => ?_⟩
    by_cases e : i = j
    · subst e
      rw [List.getElem?_set] at q
      rw [if_pos rfl] at q
      split at q
      · cases q; exact ⟨_, hv, rl⟩
      · cases q
    · rw [List.getElem?_set_ne e] at q
      exact s1.at_ j d q
  exact (k σ _ (g.to (x0 od) (g0 od)) s2).run pins st I2
/-- sum of a list of ints -/
theorem dx_sumL {ns : List Int} (hc : X.calm = true) (hm : X.mg "sum" = none) (hg : Gl X "sum") (ha : DX X T B a ρ S d S1) (hv : Vw S1 d (.lst (ns.map D.int))) (h1 : starEach (a :: []) X.env = (false, eval a X.env) :: starEach [] X.env := by rfl) : DX X T B (.Call (.Name "sum" p) [a] [] pos) ρ S (.int ns.sum) S1 :=
  de_callB (r := rSum X.K) (cr_sum hc) (fun _ _ _ _ m ⟨p, n, e, h, q⟩ => ⟨p, n, e, h, m _ _ q⟩) hg hm (by decide +kernel) (da_cons ha da_nil h1) (fun H vs g r => by
    cases r with
    | cons r1 r2 =>
      cases r2
      obtain ⟨q, ws, rfl, hr, rf⟩ := hv.lst g.g r1
      have := rf.ints
      subst this
      exact ⟨q, ns, rfl, hr, Pt.here ⟨rfl, rfl⟩ g (.int _)⟩) (he := h1)
/-- an int in a row of ints -/
theorem inV_ints (u : Int) : ∀ ts : List Int, inV (.int u) (ts.map V.int) = decide (u ∈ ts)
  | [] => by simp [inV]
  | t :: ts => by
    have ih := inV_ints u ts
    unfold inV at ih ⊢
    rw [List.map_cons, List.any_cons, ih]
    by_cases e : t = u
    · subst e; simp [eqV]
    · have : ¬ u = t := fun z => e z.symm
      simp [eqV, this, e]
theorem all_flatI (ts : List Int) : (ts.map V.int).all flatV = true := by
  rw [List.all_eq_true]
  intro v hv
  obtain ⟨t, _, rfl⟩ := List.mem_map.mp hv
  rfl
theorem ov_inIs {u : Int} {ts : List Int} {n : Bool} (h : SeqD S d (ts.map D.int)) : OV X T B (rIn X.K n) (.int u) d S (.bl (if n then !decide (u ∈ ts) else decide (u ∈ ts))) S := fun H vx vy gd r1 r2 => by
  cases r1
  obtain ⟨q, ws, e, hs, rs⟩ := h.sq gd.g r2
  subst e
  have := rs.ints
  subst this
  refine ⟨q, _, rfl, hs, rfl, all_flatI ts, ?_⟩
  rw [inV_ints]
  exact Pt.here ⟨rfl, rfl⟩ gd (.bl _)
theorem dt_inIs {u : Int} {ts : List Int} (ha : DX X T B a ρ S (.int u) S1) (hb : DX X T B b ρ S1 d S2) (h : SeqD S2 d (ts.map D.int)) (hn : behindInMarks .In b = false := by rfl) : DT X T B (.Compare a [.In] [b] pos) ρ S (decide (u ∈ ts)) S2 := dt_cmp op_in_seq ha hb (ov_inIs (n := false) h) mono_in hn
theorem dt_ninIs {u : Int} {ts : List Int} (ha : DX X T B a ρ S (.int u) S1) (hb : DX X T B b ρ S1 d S2) (h : SeqD S2 d (ts.map D.int)) (hn : behindInMarks .NotIn b = false := by rfl) : DT X T B (.Compare a [.NotIn] [b] pos) ρ S (!decide (u ∈ ts)) S2 := dt_cmp op_notIn_seq ha hb (ov_inIs (n := true) h) mono_in hn
end
/-! ### data compared, keywords -/
section
variable {X : Cx} {T : List Addr} {B : Bk} {a b c e v : Expr} {ρ : Rho} {S S1 S2 S3 S' : Sto} {d x y z : D} {pos p apos cpos : Pos} {es : List Expr} {P : D → Sto → Prop} {kws : List Keyword} {px py : PyData}
theorem dt_eqD (ha : DX X T B a ρ S x S1) (hb : DX X T B b ρ S1 y S2) (h1 : PD x px) (h2 : PD y py) (s1 : SeqAt.shaped px = true := by rfl) (s2 : SeqAt.shaped py = true := by rfl) (hu : X.A.units + 64 < cLine) : DT X T B (.Compare a [.Eq] [b] pos) ρ S (PyData.eqv px py) S2 := dt_cmp (op_eqD hu) ha hb (ov_eqD h1 h2 s1 s2) mono_eqD (nomark _)
theorem dt_neD (ha : DX X T B a ρ S x S1) (hb : DX X T B b ρ S1 y S2) (h1 : PD x px) (h2 : PD y py) (s1 : SeqAt.shaped px = true := by rfl) (s2 : SeqAt.shaped py = true := by rfl) (hu : X.A.units + 64 < cLine) : DT X T B (.Compare a [.NotEq] [b] pos) ρ S (!PyData.eqv px py) S2 := dt_cmp (op_neD hu) ha hb (ov_neD h1 h2 s1 s2) mono_neD (nomark _)
/-- the keywords' values, from the left -/
structure wK (X : Cx) (kws : List Keyword) (σ : L2.St) (H : Hp) (Q : List V → Hp → Prop) : Prop where
  run : ∀ (pos : Pos) pins s, Inv X pins σ H s → wpAny (model X.prog X.w) X.A (evalAll ((backToKw pos (keywordEach kws X.env)).map (·.2))) (AP X pins σ Q) X.xe s
theorem pk_w : PK X kws (wK X kws) := ⟨fun pos pins s _ _ _ I h => h.run pos pins s I⟩
def DKw (X : Cx) (T : List Addr) (B : Bk) (kws : List Keyword) (ρ : Rho) (S : Sto) (ds : List D) (S' : Sto) : Prop := ∀ σ H, Gd X.K T B H S → Slots X.K (mm S) H σ ρ → wK X kws σ H fun vs H' => Reps X.K (mm S') H' vs ds ∧ Gd X.K T B H' S' ∧ Ext (mm S) (mm S') H H'
theorem dk_nil : DKw X T B [] ρ S [] S := fun σ H g s => ⟨fun pos pins st I => pk_nil.run pos pins st σ H _ I ⟨.nil, g, Ext.refl _ _⟩⟩
theorem wK_mono {σ : L2.St} {H : Hp} {Q Q' : List V → Hp → Prop} (h : wK X kws σ H Q) (m : ∀ v H', Q v H' → Q' v H') : wK X kws σ H Q' := ⟨fun pos pins s I => thn (h.run pos pins s I) fun _ _ ⟨v, H', I', r, q⟩ => ⟨v, H', I', r, m v H' q⟩⟩
theorem dk_cons {ds : List D} {nm : Option Str} {kpos : Pos} (ha : DX X T B e ρ S d S1) (hr : DKw X T B kws ρ S1 ds S2) : DKw X T B (⟨nm, e, kpos⟩ :: kws) ρ S (d :: ds) S2 := fun σ H g s => ⟨fun pos pins st I =>
  (pk_cons pe_w pk_w).run pos pins st σ H _ I (wE_mono (ha σ H g s) fun v H1 ⟨d1, T1, ⟨e1, e2⟩, r1, g1, x1⟩ => by
    subst e1; subst e2
    exact wK_mono (hr σ H1 g1 (s.ext x1)) fun vs H2 ⟨r2, g2, x2⟩ => ⟨.cons (r1.ext x2) r2, g2, x1.trans x2⟩)⟩
/-- the values in the parameters' order -/
def pick {α : Type} (π : List Nat) (xs : List α) : List α := π.filterMap fun i => xs[i]?
theorem Vals.pick {vs : List V} {us : List Value} (r : Vals vs us) (π : List Nat) : Vals (pick π vs) (pick π us) := by
  have get : ∀ {vs : List V} {us : List Value}, Vals vs us → ∀ i : Nat, (vs[i]? = none ∧ us[i]? = none) ∨ ∃ v u, vs[i]? = some v ∧ us[i]? = some u ∧ RelV v u := by
    intro vs us r
    induction r with
    | nil => intro i; exact .inl ⟨rfl, rfl⟩
    | cons h t ih =>
      intro i
      cases i with
      | zero => exact .inr ⟨_, _, rfl, rfl, h⟩
      | succ i => exact ih i
  induction π with
  | nil => exact .nil
  | cons i π ih =>
    unfold DL.pick at ih ⊢
    rw [List.filterMap_cons, List.filterMap_cons]
    rcases get r i with ⟨h1, h2⟩ | ⟨v, u, h1, h2, h3⟩
    · rw [h1, h2]; exact ih
    · rw [h1, h2]; exact .cons h3 ih
theorem Reps.pick {K : PySem.W.Frag} {M : List Addr} {H : Hp} {vs : List V} {ds : List D} (r : Reps K M H vs ds) (π : List Nat) : Reps K M H (DL.pick π vs) (DL.pick π ds) := by
  induction π with
  | nil => exact .nil
  | cons i π ih =>
    unfold DL.pick at ih ⊢
    rw [List.filterMap_cons, List.filterMap_cons]
    cases h : ds[i]? with
    | none =>
      have hl : vs[i]? = none := by
        rw [List.getElem?_eq_none_iff] at h ⊢
        rw [r.length]; exact h
      rw [hl]; exact ih
    | some d =>
      obtain ⟨v, h1, h2⟩ := r.get h
      rw [h1]; exact .cons h2 ih
/-- a def called by keywords alone -/
structure FNK (P : Program) (w : World) (K : PySem.W.Frag) (mg : Str → Option Value) (base : Heap) (T : List Addr) (CX : CXT) (k : Nat) (x : Str) (ks : List Str) (π : List Nat) (F : FT) : Prop where
  ex : ∃ f fd ps, FnOk P w K mg base CX k f fd ps (spD K T F) ∧ mg x = some (.ref f) ∧ PySem.W.keepIn K (.ref f) = true ∧ KBn K fd ps 0 ks (fun _ ws => pick π ws) (fun _ zs => pick π zs)
theorem kbn_of {K : PySem.W.Frag} {x qual : Str} {st : Stmt} {f : Addr} {fd : FuncData} {ps ks : List Str} {π : List Nat} (F : Fun K x qual st f fd)
    (h : ∀ (kV doc pm : Value) (an : Option Addr) (cdv ct : Value) (ws : List Value), ws.length = ks.length → bindArgs (PySem.W.fnOf x qual (defArgs st) (defBody st) (defScope st) .none kV doc pm an cdv ct) ⟨[], ks.zip ws⟩ = pure (ps.zip (pick π ws))) : KBn K fd ps 0 ks (fun _ ws => pick π ws) (fun _ zs => pick π zs) := by
  obtain ⟨oc, od, kV, doc, pm, an, cdv, ct, osl, rfl, lk, hcd⟩ := F.ex
  refine ⟨fun s us ws _ hu hw => ?_, fun r1 r2 => Vals.pick r2 π⟩
  have : us = [] := List.length_eq_zero_iff.mp hu
  subst this
  exact .of_eq (h kV doc pm an cdv ct ws hw)
theorem FD.fnk {P : Program} {w : World} {K : PySem.W.Frag} {mg : Str → Option Value} {base : Heap} {T : List Addr} {CX : CXT} {k : Nat} {f : Addr} {fd : FuncData} {ps : List Str} {F : FT} {x : Str} {ks : List Str} {π : List Nat} (h : FD P w K mg base T CX k f fd ps F) (hm : mg x = some (.ref f)) (hk : PySem.W.keepIn K (.ref f) = true)
    (hb : KBn K fd ps 0 ks (fun _ ws => pick π ws) (fun _ zs => pick π zs)) : FNK P w K mg base T CX k x ks π F := ⟨f, fd, ps, h.ok, hm, hk, hb⟩
theorem de_callK {CX : CXT} {k : Nat} {x : Str} {ks : List Str} {π : List Nat} {F : FT} {ds : List D} (hF : FNK X.prog X.w X.K X.mg X.base T CX k x ks π F) (hr : Room k X.A) (hg : Gl X x) (hx : Passes CX X E0) (ha : DKw X T B kws ρ S ds S1) (h : F (pick π ds) S1 P X0) (hl : ds.length = ks.length)
    (hall : (backToKw pos (keywordEach kws X.env)).all (·.1.isSome) = true := by rfl) (hks : (backToKw pos (keywordEach kws X.env)).filterMap (·.1) = ks := by rfl) (hdb : (x == ("__debug__" : Str)) = false := by decide)
    (hpl : ((backTo pos (starEach [] X.env)).any (·.1) || (backToKw pos (keywordEach kws X.env)).any (·.1.isNone)) = false := by rfl) : DE X T B (.Call (.Name x p) [] kws pos) ρ S P := fun σ H g s => ⟨fun pins st I => by
  obtain ⟨f, fd, ps, fo, hm, hk, hb⟩ := hF.ex
  refine wpAny_Call_Name_kw (ld_glob I hg hm ?_ hdb)
  refine PySem.W.callWith_KW0 (h₀ := X.base) I.ok.mod.kin hk hall ?_ hpl
  refine thn ((ha σ H g s).run pos pins st I) fun ws s2 ⟨zs, H2, I2, rz, rd, g2, x2⟩ => ⟨I2.kIn, ?_⟩
  rw [hks]
  refine run_fnN (us := []) (vs := []) fo hr hb hx I2 .nil rz rfl (by rw [rd.length, hl]) ?_
  exact ⟨_, _, P, X0, g2.g, rd.pick π, h, fun v H' d S' hP g' r' x' => ⟨d, S', hP, r', (g2.to x' g'), x2.trans x'⟩, ExcIs.none⟩⟩
end
end DL
set_option Elab.async false
set_option linter.all false
set_option maxRecDepth 100000
set_option maxHeartbeats 4000000
/-! the same for ints as keys, and a place with a text -/
namespace DL
open PySem PySem.Spec PyProof.Rows L2
section
variable {X : Cx} {T : List Addr} {B : Bk} {a b c e v : Expr} {ρ : Rho} {S S1 S2 S3 S' : Sto} {d y z : D} {pos p apos cpos : Pos} {es : List Expr} {P : DEnds} {rest : List Stmt} {pos' : Pos}
theorem dx_subKi {gs : List (L2.Key × D)} {i : Int} (hu : X.A.units + 1 < cLine) (ha : DX X T B a ρ S d S1) (hb : DX X T B b ρ S1 (.int i) S2) (hv : DvK S2 d gs) (hz : getG gs (.inl i) = some z) (hs : NoSl b := by exact fun _ _ => rfl) : DX X T B (.Subscript a b pos) ρ S z S2 := dx_subK (k := .inl i) hu ha hb hv hz hs
theorem dx_getKi {gs : List (L2.Key × D)} {i : Int} {g0 : List (L2.Key × D)} (hu : X.A.units + 1 < cLine) (ha : DX X T B a ρ S d S1) (h0 : DvK S1 d g0) (hb : DX X T B b ρ S1 (.int i) S2) (hx : DX X T B c ρ S2 z S3) (hv : DvK S3 d gs) (hz : y = (getG gs (.inl i)).getD z) (m : M2 X a "get" apos b c cpos) :
    DX X T B (.Call (.Attribute a "get" apos) [b, c] [] cpos) ρ S y S3 := dx_getK (k := .inl i) hu ha h0 hb hx hv hz m
theorem qs_putKi {j : Nat} {l : Addr} {gs : List (L2.Key × D)} {i : Int} (hu : X.A.units + 1 < cLine) (hv : DX X T B v ρ S y S1) (ha : DX X T B a ρ S1 (.ref l) S2) (hb : DX X T B b ρ S2 (.int i) S3) (hi : S3[j]? = some (l, .dK gs)) (hz : gs.length < 100000)
    (kk : DSs X T B rest ρ (S3.set j (l, .dK (putG gs (.inl i) y))) P) (hs : swapsWith v (some (.Subscript a b pos')) pos.line X.env = pure false := by rfl) : DSs X T B (.Assign [.Subscript a b pos'] v pos :: rest) ρ S P := qs_putKk (k := .inl i) hu hv ha hb hi hz kk hs
theorem dx_subTis {gs : List (List L2.Key × D)} {i : Int} {u : Str} (hu : X.A.units + 1 < cLine) (ha : DX X T B a ρ S d S1) (hb : DX X T B b ρ S1 (.tupP [.int i, .str u]) S2) (hv : DvT S2 d gs) (hz : getG gs [.inl i, .inr u] = some z) (hs : NoSl b := by exact fun _ _ => rfl) : DX X T B (.Subscript a b pos) ρ S z S2 := dx_subT (ks := [.inl i, .inr u]) hu ha hb hv hz hs
theorem qs_putTis {j : Nat} {l : Addr} {gs : List (List L2.Key × D)} {i : Int} {u : Str} (hu : X.A.units + 1 < cLine) (hv : DX X T B v ρ S y S1) (ha : DX X T B a ρ S1 (.ref l) S2) (hb : DX X T B b ρ S2 (.tupP [.int i, .str u]) S3) (hi : S3[j]? = some (l, .dT gs)) (hz : gs.length < 100000)
    (kk : DSs X T B rest ρ (S3.set j (l, .dT (putG gs [.inl i, .inr u] y))) P) (hs : swapsWith v (some (.Subscript a b pos')) pos.line X.env = pure false := by rfl) : DSs X T B (.Assign [.Subscript a b pos'] v pos :: rest) ρ S P := qs_putKt (ks := [.inl i, .inr u]) hu hv ha hb hi hz kk hs
end
section
variable {X : Cx} {T : List Addr} {B : Bk} {a : Expr} {ρ : Rho} {S S' : Sto} {d : D} {pos : Pos} {k : Bool}
theorem dt_isN (h : DX X T B a ρ S d S') (hn : ∀ M H v, Rep X.K M H v d → decide (v = .non) = k) {j : Nat} {pos' : Pos} : DT X T B (.Compare a [.Is] [.Constant .none j pos'] pos) ρ S k S' := fun σ H g s =>
  wT_of (pt_cmp (pc_isN pe_w) rfl) (wE_mono (h σ H g s) fun v H1 ⟨d1, T1, ⟨e1, e2⟩, r1, g1, x1⟩ => by subst e1; subst e2; exact ⟨k, by rw [hn _ _ _ r1], rfl, g1, x1⟩)
theorem dt_notN (h : DX X T B a ρ S d S') (hn : ∀ M H v, Rep X.K M H v d → decide (v = .non) = k) {j : Nat} {pos' : Pos} : DT X T B (.Compare a [.IsNot] [.Constant .none j pos'] pos) ρ S (!k) S' := fun σ H g s =>
  wT_of (pt_cmp (pc_notN pe_w) rfl) (wE_mono (h σ H g s) fun v H1 ⟨d1, T1, ⟨e1, e2⟩, r1, g1, x1⟩ => by subst e1; subst e2; exact ⟨!k, by rw [hn _ _ _ r1], rfl, g1, x1⟩)
theorem dx_notN (h : DX X T B a ρ S d S') (hn : ∀ M H v, Rep X.K M H v d → decide (v = .non) = k) {j : Nat} {pos' : Pos} : DX X T B (.Compare a [.IsNot] [.Constant .none j pos'] pos) ρ S (.bl (!k)) S' := fun σ H g s =>
  wE_of (pe_cmp (pc_notN pe_w) rfl) (wE_mono (h σ H g s) fun v H1 ⟨d1, T1, ⟨e1, e2⟩, r1, g1, x1⟩ => by subst e1; subst e2; exact ⟨_, _, ⟨rfl, rfl⟩, by rw [hn _ _ _ r1]; exact .bl _, g1, x1⟩)
end
section
variable {X : Cx} {T : List Addr} {B : Bk} {a : Expr} {ρ : Rho} {S S' : Sto} {d : D} {pos p : Pos}
/-- tuple(a), a a list that was just made -/
theorem de_tupleE {R : List D → Sto → Prop} (hm : X.mg "tuple" = none) (hg : Gl X "tuple") (ha : DE X T B a ρ S fun d S1 => ∃ l xs S2, d = .ref l ∧ S1 = S2 ++ [(l, .lst xs)] ∧ R xs S2) (h1 : starEach (a :: []) X.env = (false, eval a X.env) :: starEach [] X.env := by rfl) :
    DE X T B (.Call (.Name "tuple" p) [a] [] pos) ρ S (fun d S' => ∃ xs, d = .tup xs ∧ R xs S') := fun σ H g s =>
  wE_of (pe_callTy (r := rTupOf X.K) call_tuple_of hg hm (by decide +kernel) pa_w (by decide) (by decide) h1 (by rfl)) (wA_mono ((dap_cons (R := fun ds S1 => ∃ l xs S2, ds = [.ref l] ∧ S1 = S2 ++ [(l, .lst xs)] ∧ R xs S2) ha (fun d S1 ⟨l, xs, S2, e1, e2, hR⟩ => dap_nil ⟨l, xs, S2, by rw [e1], e2, hR⟩) h1) σ H g s) fun vs H1 ⟨ds, S1, ⟨l, xs, S2, e1, e2, hR⟩, r1, g1, x1⟩ => by
    subst e1; subst e2
    cases r1 with
    | cons q1 q2 =>
      cases q2
      cases q1
      have hm' : (l, D.lst xs) ∈ S2 ++ [(l, D.lst xs)] := mem_last
      obtain ⟨ws, hw, rw'⟩ := g1.g.own _ hm'
      have sub : ∀ a, a ∈ mm S2 → a ∈ mm (S2 ++ [(l, D.lst xs)]) := fun a ha => by rw [mm_append]; exact List.mem_append_left _ ha
      refine ⟨l, ws, rfl, .inl ⟨SqL.of hw, fun q hq => ?_⟩⟩
      have x2 : Ext (mm (S2 ++ [(l, D.lst xs)])) (mm (S2 ++ [(l, D.lst xs)])) H1 (upd H1 q (.tup ws)) := Ext.new1 hq
      have np : q ∉ mm (S2 ++ [(l, D.lst xs)]) := fun z => by
        obtain ⟨o, h, _⟩ := g1.g.memM z
        rw [hq] at h; cases h
      have xa := (x1.trans x2).less sub
      exact ⟨.tup xs, S2, ⟨xs, rfl, hR⟩, .tup (fun z => np (sub _ z)) (.inl upd_same) ((rw'.ext x2).less sub), g.to xa ((g1.g.new1 hq).less (List.sublist_append_left _ _)), xa⟩)
end
/-! ### data equal to itself -/
theorem eqvAll_strs : ∀ ts : List Str, PyData.eqvAll (ts.map PyData.str) (ts.map PyData.str) = true
  | [] => rfl
  | t :: ts => by
    rw [List.map_cons, PyData.eqvAll, eqvAll_strs ts, Bool.and_true]
    show (t == t) = true
    exact beq_self_eq_true _
end DL
set_option Elab.async false
set_option linter.all false
set_option maxRecDepth 100000
set_option maxHeartbeats 4000000
namespace DL
open PySem PySem.Spec PyProof.Rows L2
section
variable {X : Cx} {T : List Addr} {B : Bk} {a : Expr} {ρ : Rho} {S S1 : Sto} {pos p : Pos} {k : Bool}
theorem dx_intB (hm : X.mg "int" = none) (hg : Gl X "int") (ha : DX X T B a ρ S (.bl k) S1) (h1 : starEach (a :: []) X.env = (false, eval a X.env) :: starEach [] X.env := by rfl) : DX X T B (.Call (.Name "int" p) [a] [] pos) ρ S (.int (if k then 1 else 0)) S1 :=
  de_callTy (r := rInt1) call_int1 (fun _ _ _ _ m h => h.elim (fun ⟨i, e, q⟩ => .inl ⟨i, e, m _ _ q⟩) fun ⟨i, e, q⟩ => .inr ⟨i, e, m _ _ q⟩) hg hm (by decide +kernel) (da_cons ha da_nil h1) (fun H vs g r => by
    cases r with
    | cons r1 r2 => cases r1; cases r2; exact .inr ⟨k, rfl, Pt.here ⟨rfl, rfl⟩ g (.int _)⟩) (he := h1)
end
section
variable {X : Cx} {T : List Addr} {B : Bk} {a e : Expr} {ρ : Rho} {S S1 : Sto} {pos p : Pos} {R : Bool → Sto → Prop}
theorem dtp_of (h : DE X T B e ρ S fun d S' => ∃ k, d = .bl k ∧ R k S') (he : ∀ whole, isTrue e X.env whole = (do let v ← whole; standAt e.pos; holding [v] (truthy v)) := by intro _; rfl) : DTP X T B e ρ S R := fun σ H g s =>
  wT_of (pt_val pe_w he) (wE_mono (h σ H g s) fun v H1 ⟨d, S', ⟨k, e1, q⟩, r1, g1, x1⟩ => by
    subst e1
    cases r1
    exact ⟨k, rfl, S', q, g1, x1⟩)
theorem dtp_not (h : DTP X T B a ρ S fun k S' => R (!k) S') : DTP X T B (.UnaryOp .Not a pos) ρ S R := fun σ H g s => wT_of (pt_not pt_w) (wT_mono (h σ H g s) fun b H1 q => q)
end
end DL
set_option Elab.async false
set_option linter.all false
set_option maxRecDepth 100000
set_option maxHeartbeats 4000000
/-! sets of texts that can be walked: set(xs), sorted(set) (turned from the sets of ints) -/
namespace L2
open PySem PySem.Spec PyProof.Rows
def keyS (e : Int × Value) : Str := match e.2 with | .str k _ => k | _ => Str.empty
def GoodS (w : World) (e : Int × Value) : Prop := ∃ k tk, e.2 = Value.str k tk ∧ e.1 = hashStr w k
def SetS (w : World) (h : Heap) (a : Addr) (S : Str → Bool) (n : Nat) : Prop :=
  ∃ o es ep t, h.get? a = some o ∧ o.ExactSet ∧ o.data = .set es ep t ∧ (∀ e ∈ es.toList, GoodS w e) ∧ (es.toList.map keyS).Nodup ∧ (∀ k, S k = true ↔ k ∈ es.toList.map keyS) ∧
    es.size < scanBound ∧ t.fits es.size = true ∧ es.size = n ∧ Ris t.place.toList ∧ (w.params.followText "set-order" = true ∨ t.led = true)
section
variable {P : Program} {w : World} {h h' : Heap} {a : Addr} {S : Str → Bool} {n : Nat}
theorem SetS.at (R : SetS w h a S n) (k : ∀ o, h.get? a = some o → h'.get? a = some o) : SetS w h' a S n := by
  obtain ⟨o, es, ep, t, ho, r⟩ := R
  exact ⟨o, es, ep, t, k o ho, r⟩
theorem SetS.congr {S' : Str → Bool} (R : SetS w h a S n) (e : ∀ k, S' k = S k) : SetS w h a S' n := by
  have q : S' = S := funext e
  rw [q]; exact R
theorem goodS_elems {l : List (Int × Value)} (g : ∀ e ∈ l, GoodS w e) : ElemsOf (PySem.strKind P w) l := fun e he => by
  obtain ⟨k, tk, h1, h2⟩ := g e he
  exact ⟨⟨k, by rw [h1]; exact strKind_is P w k tk, h2⟩, by rw [h1] <;> rfl⟩
theorem goodS_is {e : Int × Value} (g : GoodS w e) (k : Str) : (PySem.strKind P w).is k e.2 = true ↔ keyS e = k := by
  obtain ⟨k0, tk, h1, _⟩ := g
  unfold keyS
  rw [h1]
  constructor
  · intro q
    obtain ⟨u, hu⟩ := Value.isStrOf_shape (show Value.isStrOf k (Value.str k0 tk) = true from q)
    injection hu with hx
  · intro q
    subst q
    exact strKind_is P w _ tk
theorem goodS_mem {l : List (Int × Value)} (g : ∀ e ∈ l, GoodS w e) (k : Str) : k ∈ l.map keyS ↔ ∃ e ∈ l, (PySem.strKind P w).is k e.2 = true := by
  rw [List.mem_map]
  constructor
  · rintro ⟨e, he, q⟩
    exact ⟨e, he, (goodS_is (g e he) k).2 q⟩
  · rintro ⟨e, he, q⟩
    exact ⟨e, he, (goodS_is (g e he) k).1 q⟩
end
section
variable {P : Program} {w : World} {A : Around} {E : Value → Shared → Prop} {s : Shared} {a : Addr} {S : Str → Bool} {n : Nat}
theorem setS_add_tail {g : Bool → Sem Unit} (hg : ∀ (b : Bool) (s₁ : Shared) (Q' : Unit → Shared → Prop), Q' () s₁ → wpAny (model P w) A (g b) Q' E s₁)
    {o : Obj} {es : Array (Int × Value)} {ep : Nat} {t : SetTable} (ho : s.heap.get? a = some o) (hex : o.ExactSet) (hd : o.data = .set es ep t)
    {es1 : Array (Int × Value)} {t2 : SetTable} {S' : Str → Bool} (g1 : ∀ e ∈ es1.toList, GoodS w e) (nd1 : (es1.toList.map keyS).Nodup) (m1 : ∀ k, S' k = true ↔ k ∈ es1.toList.map keyS)
    (hb1 : es1.size < scanBound) (hf2 : t2.fits es1.size = true) (hr : Ris t2.place.toList) (hl : w.params.followText "set-order" = true ∨ t2.led = true) {wasDummy : Bool} {R : Option Bool → Shared → Prop}
    (hR : ∀ h', Heap.SameBut a s.heap h' → SetS w h' a S' es1.size → R (some true) { s with heap := h' }) :
    wpAny (model P w) A (do
        storeSet a es1 t2
        if (!wasDummy && t2.tooFull) = true then do
            g (relayAll t2 es1 (SetTable.grown es1.size)).2.2
            storeSet a (relayAll t2 es1 (SetTable.grown es1.size)).1 (relayAll t2 es1 (SetTable.grown es1.size)).2.1
            pure (some true)
          else pure (some true)) R E s := by
  refine wpAny_bind (wpAny_storeSet_of ho hd ?_ (fits_of_scanBound hb1))
  have ho1 := store_at (es' := es1) (t' := t2) ho hd
  have sb1 := Heap.SameBut.update s.heap a (Obj.putSet es1 t2)
  split
  · have pm := relayAll_perm t2 es1 (SetTable.grown es1.size)
    have hf3 := relayAll_fits t2 es1 (SetTable.grown es1.size)
    have hr3 := relayAll_ris t2 es1 (SetTable.grown es1.size)
    have hl3 := relayAll_led t2 es1 (SetTable.grown es1.size)
    generalize relayAll t2 es1 (SetTable.grown es1.size) = Z at pm hf3 hr3 hl3 ⊢
    obtain ⟨es2, t3, gave⟩ := Z
    dsimp only at pm hf3 hr3 hl3 ⊢
    have hsz : es2.size = es1.size := by rw [← Array.length_toList, pm.length_eq, Array.length_toList]
    have hb2 : es2.size < scanBound := by rw [hsz]; exact hb1
    refine wpAny_bind (hg _ _ _ ?_)
    refine wpAny_bind (wpAny_storeSet_of ho1 rfl ?_ (fits_of_scanBound hb2))
    have ho2 := store_at (es' := es2) (t' := t3) ho1 rfl
    refine wpAny_pure (hR _ (sb1.trans (Heap.SameBut.update _ a _)) ?_)
    exact ⟨_, es2, _, t3, ho2, hex, rfl, fun e he => g1 e (pm.mem_iff.mp he), (pm.map keyS).nodup_iff.mpr nd1, fun k => (m1 k).trans (pm.map keyS).mem_iff.symm, hb2, hf3, hsz, hr3,
      hl.imp id fun z => by rw [hl3]; exact z⟩
  · exact wpAny_pure (hR _ sb1 ⟨_, es1, _, t2, ho1, hex, rfl, g1, nd1, m1, hb1, hf2, rfl, hr, hl⟩)
theorem setS_add_hashed {k : Str} {tk : Tok} {Q : Bool → Shared → Prop} (R : SetS w s.heap a S n) (room : n + 1 < scanBound)
    (hQ : ∀ h', Heap.SameBut a s.heap h' → SetS w h' a (fun j => S j || decide (j = k)) (if S k = true then n else n + 1) → Q (!S k) { s with heap := h' }) :
    wpAny (model P w) A (setAddHashed a (.str k tk) ((PySem.strKind P w).hash k)) Q E s := by
  obtain ⟨o, es, ep, t, ho, hex, hd, g, nd, hm, hb, hf, hn, hr, hl⟩ := R
  have hkey : (PySem.strKind P w).is k (.str k tk) = true := strKind_is P w k tk
  have hsc : (Value.str k tk).scannable = true := rfl
  have hel : ElemsOf (PySem.strKind P w) es.toList := goodS_elems g
  unfold setAddHashed setAddHashedIn
  refine wpAny_holding (wpAny_bind (wpAny_setState_of ho hd hf ?_))
  dsimp only
  rw [byScan_of hsc hb hel]
  simp only [↓reduceIte]
  unfold setAddByScan
  refine wpAny_bind ?_
  refine wpAny_bind (wpAny_rule ?_)
  refine wpAny_bind (wpAny_setScan_of hkey ho hd hf hel ?_)
  cases hfi : List.findIdx? (fun e => (PySem.strKind P w).is k e.2) es.toList with
  | some j =>
    dsimp only
    obtain ⟨hj, pj, _⟩ := List.findIdx?_eq_some_iff_getElem.mp hfi
    have hSk : S k = true := (hm k).2 ((goodS_mem (P := P) (w := w) g k).2 ⟨es.toList[j], List.getElem_mem hj, pj⟩)
    refine wpAny_pure (wpAny_pure ?_)
    have q := hQ s.heap (Heap.SameBut.refl a s.heap) ⟨o, es, ep, t, ho, hex, hd, g, nd, fun i => by
      rw [Bool.or_eq_true, decide_eq_true_eq, ← hm i]
      exact ⟨fun z => z.elim id (fun e => e ▸ hSk), .inl⟩, hb, hf, by rw [if_pos hSk]; exact hn, hr, hl⟩
    rw [hSk] at q
    exact q
  | none =>
    dsimp only
    have hnk : k ∉ es.toList.map keyS := fun z => by
      obtain ⟨e, he, q⟩ := (goodS_mem (P := P) (w := w) g k).1 z
      have c := List.findIdx?_eq_none_iff.mp hfi e he
      rw [q] at c
      cases c
    have hSk : S k = false := by
      cases q : S k with
      | false => rfl
      | true => exact absurd ((hm k).1 q) hnk
    have hgw : ∀ (b : Bool) {s₁ : Shared} {Q' : Unit → Shared → Prop}, Q' () s₁ → wpAny (model P w) A (match b with | true => rule "set.scan.the-table-gave-way" | false => pure ()) Q' E s₁ :=
      fun b s₁ Q' q => by cases b <;> first | exact wpAny_pure q | exact wpAny_rule q
    have pm := layNew_perm t es ((PySem.strKind P w).hash k) (.str k tk)
    have hf1 := layNew_fits t es ((PySem.strKind P w).hash k) (.str k tk)
    have hr1 := layNew_ris t es ((PySem.strKind P w).hash k) (.str k tk) hr
    have hl1 := layNew_led t es ((PySem.strKind P w).hash k) (.str k tk)
    generalize layNew t es ((PySem.strKind P w).hash k) (.str k tk) = Z at pm hf1 hr1 hl1 ⊢
    obtain ⟨es1, t1, wasDummy, gave⟩ := Z
    dsimp only at pm hf1 hr1 hl1 ⊢
    rw [Array.toList_push] at pm
    have pc : es1.toList.Perm (((PySem.strKind P w).hash k, Value.str k tk) :: es.toList) := pm.trans (List.perm_append_singleton _ _)
    have pk : (es1.toList.map keyS).Perm (k :: es.toList.map keyS) := pc.map keyS
    have g1 : ∀ e ∈ es1.toList, GoodS w e := fun e he => by
      rcases List.mem_cons.mp (pc.mem_iff.mp he) with z | z
      · rw [z]; exact ⟨k, tk, rfl, rfl⟩
      · exact g e z
    have nd1 : (es1.toList.map keyS).Nodup := pk.nodup_iff.mpr (List.nodup_cons.mpr ⟨hnk, nd⟩)
    have m1 : ∀ i, (S i || decide (i = k)) = true ↔ i ∈ es1.toList.map keyS := fun i => by
      rw [Bool.or_eq_true, decide_eq_true_eq, hm i, pk.mem_iff, List.mem_cons]
      exact Or.comm
    have hsz : es1.size = n + 1 := by rw [← Array.length_toList, pc.length_eq, List.length_cons, Array.length_toList, hn]
    have hb1 : es1.size < scanBound := by rw [hsz]; exact room
    have hled : w.params.followText "set-order" = true ∨ t1.led = true := hl.imp id fun z => by rw [hl1]; exact z
    have fin : ∀ h', Heap.SameBut a s.heap h' → SetS w h' a (fun j => S j || decide (j = k)) es1.size → Q true { s with heap := h' } := fun h' sb r => by
      have q := hQ h' sb
      rw [hSk] at q
      rw [hsz] at r
      exact q r
    refine wpAny_bind (hgw _ ?_)
    split
    · refine wpAny_bind ?_
      rw [hashByValue_scannable 8 hsc]
      refine wpAny_pure ?_
      refine setS_add_tail ?_ ho hex hd g1 nd1 m1 hb1 ?_ ?_ ?_ ?_
      · intro b s₁ Q' q; cases b <;> first | exact wpAny_pure q | exact wpAny_rule q
      · first | (split <;> first | exact hf1 | exact SetTable.fits_plain_off hf1) | exact hf1
      · first | (split <;> exact hr1) | exact hr1
      · first | (split <;> exact hled) | exact hled
      · intro h' sb r; dsimp only; exact wpAny_pure (fin h' sb r)
    · refine wpAny_bind (wpAny_pure ?_)
      simp only [↓reduceIte]
      refine setS_add_tail ?_ ho hex hd g1 nd1 m1 hb1 hf1 hr1 hled ?_
      · intro b s₁ Q' q; cases b <;> first | exact wpAny_pure q | exact wpAny_rule q
      · intro h' sb r; dsimp only; exact wpAny_pure (fin h' sb r)
theorem setS_new_at {w : World} {h : Heap} {a : Addr} {ns : List Str} (ho : h.get? a = some { cls := .type "set", dict := none, data := .set #[] 0 (.fresh 0 0 (!w.params.followText "set-order")) }) : SetS w h a (fun j => decide (j ∈ ns.take 0)) 0 :=
  ⟨_, #[], 0, _, ho, ⟨rfl, rfl, rfl⟩, rfl, (fun e he => by simp at he), (by simp), (fun k => by simp), (by decide), (by rfl), rfl, List.Pairwise.nil, by
    show _ ∨ (!w.params.followText "set-order") = true
    cases w.params.followText "set-order"
    · exact .inr rfl
    · exact .inl rfl⟩
theorem set_update_strs {I : Addr} {fp wr : List Addr} {G : Array GenState → Array GenState → Prop} {n : Nat} {Pv : Nat → Value → Prop} {St : Nat → Shared → Prop} {R : Result → Shared → Prop}
    (W : WalksS P w A.in1 I fp wr G n Pv St) (S : Addr) (hSf : S ∉ fp) (ns : List Str) (hn : n = ns.length) (hb : ns.length + 1 < scanBound) (hval : ∀ i v, Pv i v → ∃ k t, ns[i]? = some k ∧ v = .str k t) :
    ∀ (k i : Nat) (s : Shared), n - i = k → i ≤ n → St i s → (∃ c, c ≤ i ∧ SetS w s.heap S (fun j => decide (j ∈ ns.take i)) c) →
      (∀ s' c, Moved (S :: wr) G s s' → c ≤ n → SetS w s'.heap S (fun j => decide (j ∈ ns)) c → R (.ok (.ret .none)) s') →
      codeAny (model P w) A (.builtin "set.update.loop" ⟨[.ref S, .ref I], []⟩) R s := by
  have hSw : S ∉ wr := fun h => hSf (W.sub _ h)
  have hsub : ∀ b ∈ wr, b ∈ S :: wr := fun b hb => List.mem_cons_of_mem _ hb
  intro k
  induction k with
  | zero =>
    intro i s hk' hi hst ⟨c, hc, hS⟩ hR
    have hin : i = n := by omega
    subst hin
    refine codeAny_builtin F.entry_set_update_loop ?_
    rw [Around.under_plainId F.plain_set_update_loop _]
    show wpAny _ A.in1 (pyNext (.ref I) >>= _) _ _ s
    refine wpAny_bind (W.done s _ _ hst fun s' hm => ?_)
    show wpAny _ A.in1 (ret Value.none) _ _ s'
    have e : ns.take i = ns := List.take_of_length_le (by omega)
    rw [e] at hS
    exact wpAny_pure (hR s' c (hm.mono hsub) hc (hS.at fun o e => hm.heap S o hSw e))
  | succ k ih =>
    intro i s hk' hi hst ⟨c, hc, hS⟩ hR
    have hlt : i < n := by omega
    refine codeAny_builtin F.entry_set_update_loop ?_
    rw [Around.under_plainId F.plain_set_update_loop _]
    show wpAny _ A.in1 (pyNext (.ref I) >>= _) _ _ s
    refine wpAny_bind (W.item i s _ _ hlt hst fun v s' hP hst' hm => ?_)
    obtain ⟨z, t, hz, rfl⟩ := hval i v hP
    have hS' : SetS w s'.heap S (fun j => decide (j ∈ ns.take i)) c := hS.at fun o e => hm.heap S o hSw e
    show wpAny _ A.in1 (holding [Value.str z t] (setAdd S (.str z t)) >>= _) _ _ s'
    refine wpAny_bind (wpAny_holding ?_)
    unfold setAdd
    refine wpAny_holding ?_
    refine wpAny_bind ((PySem.strKind P w).pyHash (k := z) (strKind_is _ _ _ _) ?_)
    refine setS_add_hashed (s := { s' with toks := s'.toks + 1 }) hS' (by omega) fun h' hsb hS2 => ?_
    have hS3 : SetS w h' S (fun j => decide (j ∈ ns.take (i + 1))) (if decide (z ∈ ns.take i) = true then c else c + 1) := hS2.congr fun j => by
      rw [List.take_add_one, hz]
      simp [List.mem_append]
    have hc3 : (if decide (z ∈ ns.take i) = true then c else c + 1) ≤ i + 1 := by
      split <;> omega
    refine wpAny_pure ⟨plainId_quiet F.plain_set_update_loop _, ih (i + 1) _ (by omega) hlt (W.frame _ s' _ _ hst' (Nat.le_succ _) fun b hb o e => ?_) ⟨_, hc3, hS3⟩ fun s'' c2 hm'' hc'' hS'' => ?_⟩
    · rw [hsb.2 b (fun h : b = S => hSf (by rw [← h]; exact hb))]; exact e
    · refine hR s'' c2 (Moved.trans W.gtrans ((hm.mono hsub).then_heap (Nat.le_succ _) fun b o hb e => ?_) hm'') hc'' hS''
      rw [hsb.2 b (fun h : b = S => hb (by rw [h]; exact List.mem_cons_self))]; exact e
theorem call_set_listS {l : Addr} {items : Array Value} (ns : List Str) {Q : Value → Shared → Prop} (hh : A.handled = none) (hl : s.heap.IsList l items) (hit : StrsAre items.toList ns) (hb : ns.length + 1 < scanBound)
    (h : ∀ (h' : Heap) (tk c : Nat), SetS w h' s.heap.objs.size (fun j => decide (j ∈ ns)) c → c ≤ ns.length → (∀ b o, s.heap.get? b = some o → h'.get? b = some o) → Q (.ref s.heap.objs.size) { s with heap := h', toks := tk }) :
    wpAny (model P w) A (call (.type "set") [.ref l]) Q E s := by
  have hisz : items.size = ns.length := by
    have q := StrsAre.len_eq hit
    rw [Array.length_toList] at q
    exact q
  obtain ⟨c, tl, hmro⟩ := F.called_set.mro
  have hmade := F.called_set.made
  have hsub := F.called_set.sub
  refine wpAny_call (codeAny_of_tree ?_)
  show wpAny _ _ (callAny (.type "set") _) _ _ _
  refine wpAny_pure ⟨Code.quiet_builtin _ (by decide +kernel), codeAny_builtin F.entry_type_call ?_⟩
  rw [Around.under_plain (weight_type_call_type "set" [.ref l] []) rfl]
  have h1 := F.called_set.notType
  have h2 := F.called_set.canCreate
  have hct := F.typeCall_set_1 (.ref l)
  repeat (any_goals (first | assumption | wp_step))
  refine codeAny_mono (code_set_led1 (.ref l) (E := E) (Q₁ := fun obj s₁ => obj = .ref s.heap.objs.size ∧ s₁ = { s with heap := s.heap.push { cls := .type "set", dict := none, data := .set #[] 0 (.fresh 0 0 (!w.params.followText "set-order")) } }) ⟨rfl, rfl⟩) fun r s₁ hr => ?_
  cases r with
  | error e => exact hr
  | ok fl =>
    cases fl with
    | ret obj =>
      obtain ⟨rfl, rfl⟩ := hr
      have hS : (s.heap.push { cls := .type "set", dict := none, data := .set #[] 0 (.fresh 0 0 (!w.params.followText "set-order")) }).get? s.heap.objs.size = some { cls := .type "set", dict := none, data := .set #[] 0 (.fresh 0 0 (!w.params.followText "set-order")) } := Heap.get?_push_size _ rfl
      have hT : Shared.TypeIs { s with heap := s.heap.push { cls := .type "set", dict := none, data := .set #[] 0 (.fresh 0 0 (!w.params.followText "set-order")) } } (.ref s.heap.objs.size) "set" := ⟨_, hS, rfl⟩
      have hli := F.called_set.init.lookup
      have hbi := F.called_set.init.bind (.ref s.heap.objs.size)
      repeat (any_goals (first | assumption | wp_step))
      refine codeAny_mono (codeAny_call_builtin (R := wants (fun r s₂ => r = .none ∧ ∃ h' tk c, s₂ = { s with heap := h', toks := tk } ∧ SetS w h' s.heap.objs.size (fun j => decide (j ∈ ns)) c ∧ c ≤ ns.length ∧
          (∀ b o, s.heap.get? b = some o → h'.get? b = some o)) E) F.called_set.init.plain F.entry_set_init (check_set_init_1 hT ?_)) fun r₂ s₂ hr₂ => ?_
      · obtain ⟨ol, hol, hcl, nl, hdl⟩ := hl
        obtain ⟨ocls, odict, odata, oslots⟩ := ol
        simp only at hcl hdl
        subst hcl; subst hdl
        have hol' : (s.heap.push { cls := .type "set", dict := none, data := .set #[] 0 (.fresh 0 0 (!w.params.followText "set-order")) }).get? l = some { cls := .type "list", dict := odict, data := .seq items nl, slots := oslots } := Heap.get?_push_of_some _ hol
        have hsls := F.sub_list_set
        have hslf := F.sub_list_frozenset
        have hne : (Value.type "list" == Value.type "dict") = false := by decide
        have hl1 : (s.heap.push { cls := .type "set", dict := none, data := .set #[] 0 (.fresh 0 0 (!w.params.followText "set-order")) }).IsList l items := ⟨_, hol', rfl, nl, rfl⟩
        unfold Builtin.«set.__init__» noKeywords Builtin.Frozenset.updateFrom
        generalize hPI : pyIter = PI
        wp_walk
        subst hPI
        refine wpAny_pyIter_list hl1 ?_
        refine wpAny_bind (wpAny_runValue ?_)
        have hlS : l < s.heap.objs.size := Heap.lt_size hol
        have hh3 : A.in1.in1.in1.handled = none := by simp [hh]
        have hz1 : (s.heap.push { cls := .type "set", dict := none, data := .set #[] 0 (.fresh 0 0 (!w.params.followText "set-order")) }).objs.size = s.heap.objs.size + 1 := Heap.size_push ..
        have hneI : l ≠ (s.heap.push { cls := .type "set", dict := none, data := .set #[] 0 (.fresh 0 0 (!w.params.followText "set-order")) }).objs.size := by
          rw [Heap.size_push]; exact Nat.ne_of_lt (Nat.lt_succ_of_lt hlS)
        have hSf : s.heap.objs.size ∉ [(s.heap.push { cls := .type "set", dict := none, data := .set #[] 0 (.fresh 0 0 (!w.params.followText "set-order")) }).objs.size, l] := by
          rw [Heap.size_push]; simp only [List.mem_cons, List.mem_singleton, List.not_mem_nil, or_false, not_or]
          exact ⟨Nat.ne_of_lt (Nat.lt_succ_self _), Nat.ne_of_gt hlS⟩
        have hval : ∀ (i : Nat) (v : Value), items[i]? = some v → ∃ k t, ns[i]? = some k ∧ v = .str k t := fun i v hv => by
          have hi : i < ns.length := by rw [← hisz]; exact (Array.getElem?_eq_some_iff.mp hv).1
          obtain ⟨t, e⟩ := SS.strs_at hit i v (by rw [Array.getElem?_toList]; exact hv)
          refine ⟨ns[i], t, List.getElem?_eq_getElem hi, ?_⟩
          rw [e, List.getD_eq_getElem?_getD, List.getElem?_eq_getElem hi] <;> rfl
        refine set_update_strs ((Walks.list hh3 _ l hneI items).toS) s.heap.objs.size
          hSf ns hisz hb hval (items.size - 0) 0 _ (by omega) (Nat.zero_le _)
          ⟨⟨_, Heap.get?_push_size _ rfl, rfl, rfl⟩, (hl1.push _)⟩ ?hS0 ?hR
        case hS0 =>
          have hget : ((s.heap.push { cls := .type "set", dict := none, data := .set #[] 0 (.fresh 0 0 (!w.params.followText "set-order")) }).push { cls := .type "list_iterator", data := .fields #[.ref l, .int 0 0] }).get? s.heap.objs.size
              = some { cls := .type "set", dict := none, data := .set #[] 0 (.fresh 0 0 (!w.params.followText "set-order")) } := Heap.get?_push_of_some _ hS
          exact ⟨0, Nat.le_refl 0, setS_new_at hget⟩
        case hR =>
          intro s' c' hm hc' hS'
          obtain ⟨h', g2, d', tk', os'⟩ := s'
          have eg : g2 = s.gens := hm.gens
          have ed : d' = s.drawn := hm.drawn
          have eo : os' = s.os := hm.os
          subst eg; subst ed; subst eo
          show wpAny _ _ _ _ _ _
          refine wpAny_pure ?_
          show wpAny _ _ (ret Value.none) _ _ _
          rw [hisz] at hc'
          refine wpAny_pure ⟨rfl, h', tk', c', rfl, hS', hc', fun b o e => ?_⟩
          have hb0 : b < s.heap.objs.size := Heap.lt_size e
          have hb1 : b ≠ s.heap.objs.size := Nat.ne_of_lt hb0
          have hb2 : b ≠ (s.heap.push { cls := .type "set", dict := none, data := .set #[] 0 (.fresh 0 0 (!w.params.followText "set-order")) }).objs.size := by
            rw [Heap.size_push]; exact Nat.ne_of_lt (Nat.lt_succ_of_lt hb0)
          exact hm.heap b o (by simp only [List.mem_cons, List.mem_singleton, List.not_mem_nil, or_false, not_or]; exact ⟨hb1, hb2⟩) (Heap.get?_push_of_some _ (Heap.get?_push_of_some _ e))
      · cases r₂ with
        | error e => exact hr₂
        | ok fl₂ =>
          cases fl₂ with
          | ret r =>
            obtain ⟨rfl, h', tk, c', rfl, hS', hc', hk'⟩ := hr₂
            repeat (any_goals (first | assumption | wp_step))
            exact h _ _ _ hS' hc' hk'
          | _ => exact hr₂.elim
    | _ => exact hr.elim
def strV (v : Value) : Str := match v with | .str k _ => k | _ => Str.empty
theorem strs_of : ∀ (l : List Value), (∀ v ∈ l, ∃ k tk, v = Value.str k tk) → StrsAre l (l.map strV)
  | [], _ => .nil
  | v :: l, h => by
    obtain ⟨k, tk, rfl⟩ := h v List.mem_cons_self
    exact .cons k tk (strs_of l fun u hu => h u (List.mem_cons_of_mem _ hu))
theorem sorted_setS {S : Str → Bool} {n : Nat} {Q : Value → Shared → Prop} (R : SetS w s.heap a S n) (hh : A.handled = none) (h64 : n < 64)
    (hQ : ∀ s' p (out : Array Value) (c : Nat) (ns : List Str), (∀ b o, s.heap.get? b = some o → s'.heap.get? b = some o) → s'.gens = s.gens → s'.os = s.os → s.heap.objs.size ≤ p →
      s'.heap.get? p = some (seqObj "list" out c) → StrsAre out.toList ns → sortedS ns = true → ns.Nodup → (∀ k, k ∈ ns ↔ S k = true) → ns.length = n → Q (.ref p) s') :
    wpAny (model P w) A (call (.builtin "sorted") [.ref a]) Q E s := by
  obtain ⟨o, es, ep, t, ho, hex, hd, g, nd, hm, hb, hf, hn, hr, hl⟩ := R
  refine Calls.call_function_entry kind_sorted plain_sorted entry_sorted (args_sorted1 _) ?_
  unfold Builtin.«sorted»
  refine wpAny_bind (m := checkCount "sorted" 1 1 _) (wpAny_pure ?_)
  refine wpAny_bind (collect_set (A := A.in1) hh ⟨o, ho, hex.1, hd⟩ hf hb hr hl fun s1 vs k1 hz g1 o1 pm => ?_)
  have hvl : vs.length = n := by rw [pm.length_eq, List.length_map, Array.length_toList]; exact hn
  have hI : StrsAre vs (vs.map strV) := strs_of vs fun v hv => by
    obtain ⟨e, he, q⟩ := List.mem_map.mp (pm.mem_iff.mp hv)
    obtain ⟨k, tk, h1, _⟩ := g e he
    exact ⟨k, tk, by rw [← q]; exact h1⟩
  have pk : (vs.map strV).Perm (es.toList.map keyS) := by
    have q := pm.map strV
    rw [List.map_map] at q
    exact q
  refine wpAny_bind (wpAny_newList ?_ (by rw [hvl, sizeLine_eq]; omega))
  have hoL : (s1.heap.push (seqObj "list" vs.toArray 0)).get? s1.heap.objs.size = some (seqObj "list" vs.toArray 0) := Heap.get?_push_size _ rfl
  refine wpAny_bind (wpAny_holding (wpAny_call_entry slot_list_sort ⟨_, hoL, rfl⟩ entry_list_sort (list_sort_treeK (s := { s1 with heap := s1.heap.push (seqObj "list" vs.toArray 0) }) strKind_oneLt hoL hI.keysOf (fun v₁ v₂ rest e => keyKind_strs (by rw [← e]; exact hI)) (by rw [hvl]; exact h64) fun st' hp hs => ?_) (args_list_sort _)))
  obtain ⟨ns', a1, a2, a3⟩ := sorted_out_str hI hp hs
  obtain ⟨c, hc⟩ := sortedHeap_at (vs := vs) (out := (arrOf st').map (·.2)) hoL
  have pn : ns'.Perm (es.toList.map keyS) := a2.trans pk
  refine ⟨_, rfl, wpAny_pure ⟨_, rfl, hQ _ s1.heap.objs.size _ c ns' (fun b u e => ?_) g1 o1 hz hc a1 a3 (pn.nodup_iff.mpr nd) (fun k => by rw [pn.mem_iff, ← hm k]) ?_⟩⟩
  · have q := k1 b u e
    have hlt := Heap.lt_size q
    show (sortedHeap (s1.heap.push (seqObj "list" vs.toArray 0)) s1.heap.objs.size vs _).get? b = some u
    rw [sortedHeap_old (Nat.ne_of_lt hlt) (by rw [size_push']; exact Nat.lt_succ_of_lt hlt)]
    exact Heap.get?_push_of_some _ q
  · rw [pn.length_eq, List.length_map, Array.length_toList]; exact hn
end
def SetSO (w : World) (a : Addr) (S : Str → Bool) (n : Nat) : HO := .ext fun h => SetS w h a S n
section
variable {X : Cx}
theorem setSO_new {w : World} {P : Program} {H : Hp} {h : Heap} {a : Addr} {S : Str → Bool} {n : Nat} (R : SetS w h a S n) : ObjOk P w H h a (SetSO w a S n) := by
  have ⟨o, _, _, _, ho, _⟩ := R
  exact ⟨R, ⟨o, ho⟩, fun h1 h2 p k => SetS.at p k⟩
theorem setSO_get {pins : List (Addr × Obj)} {σ : St} {H : Hp} {s : Shared} {a : Addr} {S : Str → Bool} {n : Nat} (I : Inv X pins σ H s) (ha : H a = some (SetSO X.w a S n)) : SetS X.w s.heap a S n := (I.hok a _ ha).1
/-- set(xs), xs a list of texts -/
def rSetOfS (K : PySem.W.Frag) (w : World) : List V → Hp → VK → Prop := fun xs H Q => ∃ (l : Addr) (ts : List Str), xs = [V.ref l] ∧ SqL K H l (ts.map V.str) ∧ ts.length < 64 ∧
  ∀ a n, H a = none → n ≤ ts.length → Q (.ref a) (upd H a (SetSO w a (fun t => decide (t ∈ ts)) n))
theorem cr_setOfS (hc : X.calm = true) : CallR X (.type "set") (rSetOfS X.K X.w) := by
  intro pins s σ H xs us Q I r h
  obtain ⟨l, ts, rfl, hl, hf, q⟩ := h
  rw [Vals.ref1 r]
  obtain ⟨its, rv, pl, hz⟩ := I.list hl
  have hn : H s.heap.objs.size = none := I.hok.fresh (Nat.le_refl _)
  refine call_set_listS (P := X.prog) (w := X.w) ts (I.ok.hd hc) pl.isList (by simpa using strsAre_of rv) (by unfold scanBound; omega) fun h' tk c R hcn k => ?_
  exact ⟨.ref s.heap.objs.size, upd H s.heap.objs.size (SetSO X.w s.heap.objs.size (fun t => decide (t ∈ ts)) c), I.laid (t' := tk) k (Nat.le_refl _) (setSO_new R), rfl, q _ c hn hcn⟩
def rSortedSetS (w : World) : List V → Hp → VK → Prop := fun vs H Q => ∃ (a : Addr) (S : Str → Bool) (n : Nat), vs = [V.ref a] ∧ H a = some (SetSO w a S n) ∧ n < 64 ∧
  ∀ (ns : List Str) (p : Addr), sortedS ns = true → ns.Nodup → (∀ k : Str, k ∈ ns ↔ S k = true) → ns.length = n → H p = none → Q (.ref p) (upd H p (.lst (ns.map V.str)))
theorem cr_sortedSetS (hc : X.calm = true) : CallR X (.builtin "sorted") (rSortedSetS X.w) := by
  intro pins s σ H vs us Q I r h
  obtain ⟨a, S, n, rfl, ha, h64, q⟩ := h
  have R := setSO_get I ha
  rw [Vals.ref1 r]
  refine sorted_setS R (I.ok.hd hc) h64 fun s' p out c ns k g o hp hg hi hs hnd hm hl => ?_
  have hlen : (ns.map V.str).length ≤ sizeLine := by rw [List.length_map, hl, sizeLine_eq]; omega
  have hn : H p = none := I.hok.fresh hp
  have J : Inv X pins σ (upd H p (.lst (ns.map V.str))) { s with heap := s'.heap, gens := s'.gens, drawn := s'.drawn, toks := s'.toks } :=
    I.call (ch := []) (Un.laid k hp hn) (I.hok.laid k hp ⟨hlen, out.toList, c, vals_of_strs hi, hg⟩) (by rw [g]; exact I.bare) (fun _ z => nomatch z)
  have e : s' = { s with heap := s'.heap, gens := s'.gens, drawn := s'.drawn, toks := s'.toks } := by
    cases s'
    cases s
    cases o
    rfl
  rw [e]
  exact ⟨.ref p, _, J, rfl, q ns p hs hnd hm hl hn⟩
end
end L2
set_option Elab.async false
set_option linter.all false
set_option maxRecDepth 100000
set_option maxHeartbeats 4000000
/-! enumerate of a tuple (turned from enumerate of a list) -/
namespace ET
open PySem PySem.Spec PyProof.Rows L2
open AutoSeq1 (wpAny_loadPart')
theorem drawsT {prog : Program} {w : World} {A : Around} (hh : A.handled = none) {it a : Addr} {items : Array Value} (hne : it ≠ a) :
    Draws prog w A it [it, a] items.size (fun i x => items[i]? = some x) (fun i h => h.IsTupleIter it a i ∧ h.IsTuple a items) where
  live := fun i h st => by obtain ⟨⟨o, ho, _⟩, _⟩ := st; exact ⟨o, ho⟩
  frame := fun i h h' st k => by
    obtain ⟨⟨o, ho, r⟩, ⟨o2, ho2, r2⟩⟩ := st
    exact ⟨⟨o, k it (by simp) o ho, r⟩, ⟨o2, k a (by simp) o2 ho2, r2⟩⟩
  item := fun i s Q E hi st h => by
    obtain ⟨h1, h2⟩ := st
    have hx : items[i]? = some items[i] := Array.getElem?_eq_getElem hi
    refine RZ.nextOf_tuple_item h1 h2 hx fun h' k1 sb => h _ h' s.toks hx ⟨k1, ?_⟩ sb
    obtain ⟨o2, ho2, r2⟩ := h2
    exact ⟨o2, (sb.2 a (Ne.symm hne)).trans ho2, r2⟩
  done := fun s Q E st h => RZ.nextOf_tuple_end hh st.1 st.2 (Array.getElem?_eq_none (Nat.le_refl _)) h
section
variable {prog : Program} {w : World} {A : Around} {E : Value → Shared → Prop} {s : Shared}
theorem pyNext_enumT_end {e it l : Addr} {i : Nat} {items : Array Value} {old : Value} {Q : Option Value → Shared → Prop} (hh : A.handled = none)
    (he : IsEnum s.heap e it i old) (hit : s.heap.IsTupleIter it l i) (hl : s.heap.IsTuple l items) (hx : items[i]? = none)
    (hQ : ∀ h', Heap.ExtBut it s.heap h' → Q none { s with heap := h' }) : wpAny (model prog w) A (pyNext (.ref e)) Q E s := by
  have hT : s.TypeIs (.ref e) "enumerate" := ⟨_, he, rfl⟩
  unfold pyNext
  refine wpAny_bind (wpAny_attempt (wpAny_callSpecial?_slot (name := Str.ofString "__next__") hT F.slot_enumerate_next
    (wpAny_call_entry F.slot_enumerate_next hT F.entry_enumerate_next ?_ (F.args_enumerate_next_1 _))))
  show wpAny _ _ (field (.ref e) 2 >>= _) _ _ _
  refine wpAny_bind (wpAny_field he rfl (x := .ref it) rfl ?_)
  refine wpAny_bind (RZ.nextOf_tuple_end hh hit hl hx fun h' x he' hx' => ?_)
  obtain ⟨o, ho, hc⟩ := hx'
  refine wpAny_bind (wpAny_isInstance (T := "StopIteration") (b := true) ⟨o, ho, hc⟩ isSubtype_stop ?_)
  exact wpAny_pure (hQ _ he')
theorem meets_enumerate_newT (l : Addr) (items : Array Value) (n : Nat) (dct : Option Addr) (sl : Array (Option Value)) :
    Meets (Builtin.«enumerate.__new__» ⟨[.type "enumerate", .ref l], []⟩) (fun _ R s => s.heap.get? l = some { cls := .type "tuple", dict := dct, data := .seq items n, slots := sl } ∧
      R (.ok (.ret (.ref (s.heap.push { cls := .type "tuple_iterator", data := .fields #[.ref l, .int 0 0] }).objs.size)))
        { s with heap := (s.heap.push { cls := .type "tuple_iterator", data := .fields #[.ref l, .int 0 0] }).push { cls := .type "enumerate", data := .fields #[.none, .bool false, .ref s.heap.objs.size, rawInt 0, .none, .none] } }) :=
  .of_wp fun prog w A R s h => by
    obtain ⟨hp, g, d, tk, os⟩ := s; obtain ⟨hl, h⟩ := h
    have hsub := sub_enumerate
    have hL : Heap.IsTuple (Shared.heap ⟨hp, g, d, tk, os⟩) l items := ⟨_, hl, rfl, n, rfl⟩
    wp_walk using wpAny_loadPart' hl
    refine wpAny_stack_any fun st => wpAny_pure ?_
    split
    · rename_i c _ _ _ _ _
      cases (c == Value.type "enumerate")
      · wp_walk using wpAny_loadPart' hl, wpAny_pyIter_tuple hL
        exact ⟨_, rfl, h⟩
      · wp_walk using wpAny_loadPart' hl, wpAny_pyIter_tuple hL
        exact ⟨_, rfl, h⟩
    · wp_walk using wpAny_loadPart' hl, wpAny_pyIter_tuple hL
      exact ⟨_, rfl, h⟩
theorem call_enumerate_tuple {l : Addr} {items : Array Value} {Q : Value → Shared → Prop} (hL : s.heap.IsTuple l items)
    (h : ∀ h', IsEnum h' (s.heap.objs.size + 1) s.heap.objs.size 0 .none → h'.IsTupleIter s.heap.objs.size l 0 → h'.objs.size = s.heap.objs.size + 2 →
      (∀ b o, s.heap.get? b = some o → h'.get? b = some o) → Q (.ref (s.heap.objs.size + 1)) { s with heap := h' }) :
    wpAny (model prog w) A (call (.type "enumerate") [.ref l]) Q E s := by
  obtain ⟨⟨c, dct, dt, sl⟩, hl, hc, n, hd⟩ := hL
  replace hc : c = .type "tuple" := hc
  replace hd : dt = .seq items n := hd
  subst hc hd
  refine callType_new F.called_enumerate (by decide) (F.typeCall_enumerate_1 _) (F.newCall_enumerate_1 _) (fun obj => F.args_object_init_2 obj _) F.entry_enumerate_new
    (meets_enumerate_newT l items n dct sl) ⟨hl, ?_⟩
  have hz : (s.heap.push { cls := .type "tuple_iterator", data := .fields #[.ref l, .int 0 0] }).objs.size = s.heap.objs.size + 1 := Heap.size_push ..
  show _ ∧ _
  rw [hz]
  have he : IsEnum ((s.heap.push { cls := .type "tuple_iterator", data := .fields #[.ref l, .int 0 0] }).push
      { cls := .type "enumerate", data := .fields #[.none, .bool false, .ref s.heap.objs.size, rawInt 0, .none, .none] }) (s.heap.objs.size + 1) s.heap.objs.size 0 .none := by
    have := Heap.get?_push_size (s.heap.push { cls := .type "tuple_iterator", data := .fields #[.ref l, .int 0 0] })
      (o := { cls := .type "enumerate", data := .fields #[.none, .bool false, .ref s.heap.objs.size, rawInt 0, .none, .none] }) rfl
    rw [hz] at this; exact this
  refine ⟨⟨_, he, rfl⟩, h _ he ⟨_, Heap.get?_push_of_some _ (Heap.get?_push_size _ rfl), rfl, rfl⟩ (by rw [Heap.size_push, hz]) fun b o x => Heap.get?_push_of_some _ (Heap.get?_push_of_some _ x)⟩
end
def IteT (K : PySem.W.Frag) (a : Addr) : It :=
  ⟨fun i H => ∃ (xs : List V) (x : V), SqT K H a xs ∧ xs[i]? = some x, fun i H v H' => ∃ T x, v = .ref T ∧ H T = none ∧ H' = upd H T (.tup [.int (i : Nat), x]) ∧ ∀ xs, SqT K H a xs → xs[i]? = some x, fun i H => ∃ xs : List V, SqT K H a xs ∧ xs.length ≤ i⟩
theorem turn_enumT {P : Program} {w : World} {K : PySem.W.Frag} {elts : List Expr} {kk : Nat} {tpos : Pos} (a e it : Addr) :
    Turn P w K (.Tuple elts kk tpos) (IteT K a) [e, it] e (fun i h => (∃ old, IsEnum h e it ((i : Nat) : Int) old) ∧ h.IsTupleIter it a i ∧ e ≠ it ∧ e ≠ a ∧ it ≠ a) where
  mem := by simp
  obj := fun i h st b hb => by
    obtain ⟨⟨old, he⟩, ⟨o, ho, hc, hd⟩, _⟩ := st
    have e' : b = e ∨ b = it := by simpa using hb
    rcases e' with z | z
    · rw [z]; exact ⟨_, he, fun v q => nomatch q⟩
    · rw [z]; exact ⟨o, ho, fun v q => by rw [hd] at q; cases q⟩
  keep := fun i h h' st k => let ⟨⟨old, he⟩, hi, hne⟩ := st; ⟨⟨old, k e (by simp) _ he⟩, hi.at fun o q => k it (by simp) o q, hne⟩
  item := by
    intro X hP hw hK hc i pins s σ H E I hf st hg
    subst hP hw hK
    obtain ⟨⟨old, he⟩, hit, hne, hea, hia⟩ := st
    obtain ⟨xs, x, hq, hx⟩ := hg
    obtain ⟨its, rv, p, hz⟩ := I.tuple hq
    obtain ⟨u, hu, ru⟩ := rv.get hx
    have hel : e < s.heap.objs.size := Heap.lt_size he
    have hil : it < s.heap.objs.size := by obtain ⟨_, q, _⟩ := hit; exact Heap.lt_size q
    have hh : X.A.in1.handled = none := by have := I.ok.hd hc; simp [this]
    have hlt : i < its.toArray.size := by
      rw [List.size_toArray]
      exact (List.getElem?_eq_some_iff.mp hu).1
    refine wpAny_pyNext_enum_itemD (D := drawsT (prog := X.prog) (w := X.w) (A := X.A.in1) hh (items := its.toArray) hia) he ⟨hit, p⟩ hlt hne (by simp [hne, hea]) fun u' h' tk hu' ho hit' hT hsz hk => ?_
    have eu : u' = u := by
      have : its.toArray[i]? = some u := by simpa using hu
      rw [hu'] at this
      exact Option.some.inj this
    subst eu
    refine ⟨_, rfl, wpAny_letOwnedTupleGo_enum (s := { s with heap := h', toks := tk + 1 }) ho fun h'' he' sb => ?_⟩
    have hT2 : h''.get? s.heap.objs.size = some { cls := .type "tuple", data := .seq #[.int i tk, u'] } := (sb.2 _ (Nat.ne_of_gt hel)).trans hT
    have new : ObjOk X.prog X.w (upd H s.heap.objs.size (.tup [.int (i : Nat), x])) h'' s.heap.objs.size (.tup [.int (i : Nat), x]) :=
      ⟨by show 2 ≤ sizeLine; decide, [.int i tk, u'], .cons ⟨_, rfl⟩ (.cons ru .nil), ⟨_, hT2, rfl, _, rfl⟩⟩
    have I1 : Inv X pins σ (upd H s.heap.objs.size (.tup [.int (i : Nat), x])) { s with heap := h'', toks := tk + 1 } :=
      I.turnedNew (ch := [e, it]) (fun b ob hb q => (sb.2 b (fun z => hb (by simp [z]))).trans (hk b ob (fun z => hb (by simp [z])) (fun z => hb (by simp [z])) q)) hf (Nat.le_refl _) new
    refine ⟨.ref s.heap.objs.size, _, I1, rfl, ⟨_, x, rfl, I.hok.fresh (Nat.le_refl _), rfl, fun ys hy => by rw [I.tuple_inj hy hq]; exact hx⟩, ⟨⟨u', ?_⟩, hit'.1.at fun o q => (sb.2 it (Ne.symm hne)).trans q, hne, hea, hia⟩, fun b hb => ?_⟩
    · have e1 : ((i + 1 : Nat) : Int) = (i : Int) + 1 := by omega
      rw [e1]; exact he'
    · have hb' : b < s.heap.objs.size := by
        have e' : b = e ∨ b = it := by simpa using hb
        rcases e' with z | z
        · rw [z]; exact hel
        · rw [z]; exact hil
      rw [upd_ne (Nat.ne_of_lt hb')]
      exact (hf b hb).1
  done := by
    intro X hP hw hK hc i pins s σ H E I hf st hg
    subst hP hw hK
    obtain ⟨⟨old, he⟩, hit, hne, _⟩ := st
    obtain ⟨xs, hq, hx⟩ := hg
    obtain ⟨its, rv, p, hz⟩ := I.tuple hq
    obtain ⟨f0, f1, f2, f3, f4, f5⟩ := hf it (by simp)
    have hl := rv.length
    exact pyNext_enumT_end (I.ok.hd hc) he hit p (by simp; omega) fun h' eb => ⟨rfl, I.turned (t' := s.toks) (fun b o hb q => eb b o hb q) f0 f1 f3 f4 f5⟩
  self := fun A i s Q E st h => let ⟨⟨_, he⟩, _⟩ := st; wpAny_pyIter_enum he h
def iEnumT (K : PySem.W.Frag) (ta : TA) : TI := fun σ H R => ta σ H fun vs H1 => ∃ a xs, vs = [.ref a] ∧ SqT K H1 a xs ∧ R (IteT K a) H1
theorem pi_enumT {X : Cx} {e : Expr} {ta : TA} {p pos tpos : Pos} {elts : List Expr} {kk : Nat} (hg : Gl X "enumerate") (hm : X.mg "enumerate" = none) (ha : PA X [e] ta) (hs : starEach [e] X.env = (false, eval e X.env) :: starEach [] X.env := by rfl) :
    PI X (.Tuple elts kk tpos) (.Call (.Name "enumerate" p) [e] [] pos) (iEnumT X.K ta) := by
  refine ⟨fun pins s σ H R I h => ?_⟩
  refine Call_ (ld_blt I hg hm boot_enumerate (PyProof.Rows.callWith_type1 (thn (ha.run pos pins s σ H _ I h) fun us s1 ⟨vs, H1, I1, r1, q1⟩ => ?_) hs rfl))
  obtain ⟨a, xs, ex, hq, q⟩ := q1
  subst ex
  cases r1 with
  | cons r rr =>
    cases rr
    cases r
    obtain ⟨its, rv, p', hz⟩ := I1.tuple hq
    have hal : a < s1.heap.objs.size := by obtain ⟨o, ho, _⟩ := p'; exact Heap.lt_size ho
    refine call_enumerate_tuple p' fun h' he hit hsz hk => wpAny_pyIter_enum he ?_
    have I2 : Inv X pins σ H1 { s1 with heap := h' } := I1.kept (t' := s1.toks) hk
    refine ⟨s1.heap.objs.size + 1, [s1.heap.objs.size + 1, s1.heap.objs.size], _, _, H1, rfl, I2, turn_enumT a (s1.heap.objs.size + 1) s1.heap.objs.size, ⟨⟨.none, he⟩, hit, Nat.succ_ne_self _, Nat.ne_of_gt (Nat.lt_succ_of_lt hal), Nat.ne_of_gt hal⟩, fun b hb => ?_, q⟩
    have e' : b = s1.heap.objs.size + 1 ∨ b = s1.heap.objs.size := by simpa using hb
    have hle : s1.heap.objs.size ≤ b := by
      rcases e' with z | z
      · rw [z]; exact Nat.le_add_right _ _
      · rw [z]; exact Nat.le_refl _
    exact I1.fpOk hle (I1.hok.fresh hle)
end ET
set_option Elab.async false
set_option linter.all false
set_option maxRecDepth 100000
set_option maxHeartbeats 4000000
namespace DL
open PySem PySem.Spec PyProof.Rows L2
/-! ### unlike texts, ascending -/
def dd : List Str → List Str
  | [] => []
  | t :: ts => if t ∈ dd ts then dd ts else t :: dd ts
theorem dd_mem {t : Str} : ∀ {ts : List Str}, t ∈ dd ts ↔ t ∈ ts
  | [] => Iff.rfl
  | u :: ts => by
    rw [dd]
    split
    · rename_i h
      rw [dd_mem, List.mem_cons]
      exact ⟨.inr, fun z => z.elim (fun e => by rw [e]; exact dd_mem.mp h) id⟩
    · rw [List.mem_cons, List.mem_cons, dd_mem]
theorem dd_nodup : ∀ ts : List Str, (dd ts).Nodup
  | [] => List.nodup_nil
  | u :: ts => by
    rw [dd]
    split
    · exact dd_nodup ts
    · rename_i h
      exact List.nodup_cons.mpr ⟨h, dd_nodup ts⟩
theorem dd_len : ∀ ts : List Str, (dd ts).length ≤ ts.length
  | [] => Nat.le_refl _
  | u :: ts => by
    rw [dd]
    have := dd_len ts
    split <;> simp <;> omega
def sset (ts : List Str) : List Str := srt (dd ts)
theorem sset_mem {t : Str} {ts : List Str} : t ∈ sset ts ↔ t ∈ ts := by rw [sset, srt_mem, dd_mem]
theorem sset_nodup (ts : List Str) : (sset ts).Nodup := srt_nodup (dd_nodup ts)
theorem sset_len (ts : List Str) : (sset ts).length ≤ ts.length := by rw [sset, srt_length]; exact dd_len ts
theorem sset_uniq {ns ts : List Str} (hs : sortedS ns = true) (nd : ns.Nodup) (hm : ∀ k, k ∈ ns ↔ k ∈ ts) : ns = sset ts :=
  srt_uniq ((List.perm_ext_iff_of_nodup nd (dd_nodup ts)).mpr fun k => by rw [hm, dd_mem]) hs
section
variable {X : Cx} {T : List Addr} {B : Bk} {e a b c o tg : Expr} {es : List Expr} {ρ ρ' : Rho} {S S1 S2 S3 S' : Sto} {d y z : D} {P : DEnds} {rest : List Stmt} {pos pos' p p2 q : Pos} {xs : List D} {k : Bool}
/-- sorted(set(xs)), xs a list of texts -/
theorem dn_sortSet {ts : List Str} (hc : X.calm = true) (hg : Gl X "sorted") (hm : X.mg "sorted" = none) (hg2 : Gl X "set") (hm2 : X.mg "set" = none) (ha : DX X T B a ρ S d S1) (hv : Vw S1 d (.lst (ts.map D.str))) (h64 : ts.length < 64)
    (h1 : starEach [a] X.env = (false, eval a X.env) :: starEach [] X.env := by rfl) (h2 : starEach [.Call (.Name "set" p2) [a] [] q] X.env = (false, eval (.Call (.Name "set" p2) [a] [] q) X.env) :: starEach [] X.env := by rfl) :
    DN X T B (.Call (.Name "sorted" p) [.Call (.Name "set" p2) [a] [] q] [] pos) ρ S ((sset ts).map D.str) S1 := fun σ H g s => by
  refine wE_of (pe_callB (id := "sorted") (r := rSortedSetS X.w) (cr_sortedSetS hc) hg hm (by decide +kernel) (pa_cons (pe_callTy (r := rSetOfS X.K X.w) (cr_setOfS hc) hg2 hm2 PyProof.Rows.boot_set (pa_cons (pe_w (e := a)) pa_nil h1) (by decide) (by decide) h1 rfl) pa_nil h2) (by decide) (by decide) h2 rfl) (wE_mono (ha σ H g s) fun v H1 ⟨d1, T1, ⟨e1, e2⟩, r1, g1, x1⟩ => ?_)
  subst e1; subst e2
  obtain ⟨l, ws, e3, e4, e5⟩ := hv.lst g1.g r1
  have e6 := e5.strs
  subst e6; subst e3
  refine ⟨l, ts, rfl, e4, h64, fun a' n hn hl => ?_⟩
  have x2 : Ext (mm T1) (mm T1) H1 (upd H1 a' (SetSO X.w a' (fun t => decide (t ∈ ts)) n)) := Ext.new1 hn
  refine ⟨a', _, n, rfl, upd_same, by omega, fun ns p' hs nd hm' hln hp' => ?_⟩
  have en : ns = sset ts := sset_uniq hs nd fun k => by rw [hm']; exact decide_eq_true_iff
  subst en
  obtain ⟨d, S'', ⟨l', e7, e8⟩, r9, g9, x9⟩ := Pt.newL (X := X) (T := T) (B := B) (S' := T1) (Reps.ofStrs (K := X.K) (M := mm T1) (sset ts)) (g1.to x2 (g1.g.new1 hn)) (Ext.refl _ _) hp'
  exact ⟨d, S'', ⟨l', e7, e8⟩, r9, g9, (x1.trans x2).trans x9⟩
/-! ### tests of ints, tuples, lists -/
theorem dt_truI {i : Int} (h : DX X T B e ρ S (.int i) S') (he : ∀ whole, isTrue e X.env whole = (do let v ← whole; standAt e.pos; holding [v] (truthy v)) := by intro _; rfl) : DT X T B e ρ S (i != 0) S' := fun σ H g s =>
  wT_of (pt_truth pe_w he) (wE_mono (h σ H g s) fun v H1 ⟨d1, T1, ⟨e1, e2⟩, r1, g1, x1⟩ => by subst e1; subst e2; cases r1; exact ⟨_, rfl, rfl, g1, x1⟩)
theorem dt_truT (h : DX X T B e ρ S (.tup xs) S') (he : ∀ whole, isTrue e X.env whole = (do let v ← whole; standAt e.pos; holding [v] (truthy v)) := by intro _; rfl) : DT X T B e ρ S (!xs.isEmpty) S' := fun σ H g s =>
  wT_of (pt_truth pe_w he) (wE_mono (h σ H g s) fun v H1 ⟨d1, T1, ⟨e1, e2⟩, r1, g1, x1⟩ => by
    subst e1; subst e2
    obtain ⟨l, vs, e3, e4, e5⟩ := r1.tupT
    subst e3
    refine ⟨_, .inr (.inl ⟨vs, e4, rfl⟩), ?_, g1, x1⟩
    have := e5.length
    cases vs <;> cases xs <;> simp at this ⊢)
theorem dt_truL (h : DX X T B e ρ S d S') (hv : Vw S' d (.lst xs)) (he : ∀ whole, isTrue e X.env whole = (do let v ← whole; standAt e.pos; holding [v] (truthy v)) := by intro _; rfl) : DT X T B e ρ S (!xs.isEmpty) S' := fun σ H g s =>
  wT_of (pt_truth pe_w he) (wE_mono (h σ H g s) fun v H1 ⟨d1, T1, ⟨e1, e2⟩, r1, g1, x1⟩ => by
    subst e1; subst e2
    obtain ⟨l, vs, e3, e4, e5⟩ := hv.lst g1.g r1
    subst e3
    refine ⟨_, .inl ⟨vs, e4, rfl⟩, ?_, g1, x1⟩
    have := e5.length
    cases vs <;> cases xs <;> simp at this ⊢)
/-! ### enumerate of a tuple -/
def enumD : Nat → List D → List D
  | _, [] => []
  | i, x :: xs => .tup [.int (i : Nat), x] :: enumD (i + 1) xs
theorem enumD_length : ∀ (i : Nat) (xs : List D), (enumD i xs).length = xs.length
  | _, [] => rfl
  | i, x :: xs => by rw [enumD, List.length_cons, enumD_length, List.length_cons]
theorem enumD_get : ∀ (j : Nat) {xs : List D} {i : Nat} {x : D}, xs[i]? = some x → (enumD j xs)[i]? = some (.tup [.int (j + i : Nat), x])
  | _, [], _, _, h => by simp at h
  | j, y :: xs, 0, x, h => by simp at h; subst h; rfl
  | j, y :: xs, i + 1, x, h => by
    rw [enumD]
    have := enumD_get (j + 1) (xs := xs) (i := i) (x := x) (by simpa using h)
    rw [show j + 1 + i = j + (i + 1) by omega] at this
    simpa using this
theorem enumD_of {xs : List D} {i : Nat} {z : D} (h : (enumD 0 xs)[i]? = some z) : ∃ x, xs[i]? = some x ∧ z = .tup [.int (i : Nat), x] := by
  have hl := (List.getElem?_eq_some_iff.mp h).1
  rw [enumD_length] at hl
  have e := List.getElem?_eq_getElem hl
  refine ⟨_, e, ?_⟩
  have := enumD_get 0 e
  rw [h, Nat.zero_add] at this
  exact Option.some.inj this
theorem di_enumT {elts : List Expr} {kk : Nat} {tpos : Pos} (hm : X.mg "enumerate" = none) (hg : Gl X "enumerate") (ha : DX X T B a ρ S (.tup xs) S1)
    (hs : starEach [a] X.env = (false, eval a X.env) :: starEach [] X.env := by rfl) :
    DI X T B (.Tuple elts kk tpos) (.Call (.Name "enumerate" p) [a] [] pos) ρ S (enumD 0 xs) (fun _ => True) S1 := fun σ H g s => by
  refine wI_of (ET.pi_enumT hg hm pa_w hs) (wA_mono (da_cons ha da_nil hs σ H g s) fun vs H1 ⟨r, g1, x1⟩ => ?_)
  cases r with
  | cons r1 r2 =>
    cases r2
    obtain ⟨qa, vs, e1, h1, rs1⟩ := r1.tupT'
    subst e1
    refine ⟨qa, vs, rfl, h1 _ _ (Ext.refl _ _), g1, x1, fun i H2 S2' _ x2 g2 => ⟨fun hlt => ?_, fun hi => ?_⟩⟩
    · have hlt' := hlt
      rw [enumD_length] at hlt'
      have k1 : xs[i]? = some xs[i] := List.getElem?_eq_getElem hlt'
      obtain ⟨u1, hu1, ru1⟩ := rs1.get k1
      refine ⟨⟨vs, u1, h1 _ _ x2, hu1⟩, fun x H3 ⟨Tp, v1, e1, e2, e3, q1⟩ => ?_⟩
      subst e1; subst e3
      have z1 := q1 _ (h1 _ _ x2)
      rw [hu1] at z1
      cases z1
      have x3 : DL.Ext (mm S2') (mm S2') H2 (upd H2 Tp (.tup [.int (i : Nat), u1])) := Ext.new1 e2
      have np : Tp ∉ mm S2' := fun z => by
        obtain ⟨o, h, _⟩ := g2.memM z
        rw [e2] at h; cases h
      have := enumD_get 0 k1
      rw [Nat.zero_add] at this
      exact ⟨_, this, .tup np (.inl upd_same) (.cons (.int _) (.cons ((ru1.ext x2).ext x3) .nil)), x3, g2.new1 e2⟩
    · rw [enumD_length] at hi
      exact ⟨vs, h1 _ _ x2, by rw [rs1.length]; omega⟩
/-! ### xs.pop(i) -/
theorem Reps.eraseIdx {K : PySem.W.Frag} {M : List Addr} {H : Hp} : ∀ {vs : List V} {ds : List D} (k : Nat), Reps K M H vs ds → Reps K M H (vs.eraseIdx k) (ds.eraseIdx k)
  | _, _, _, .nil => .nil
  | _, _, 0, .cons r rs => rs
  | _, _, k + 1, .cons r rs => .cons r (rs.eraseIdx k)
theorem qs_pop {l : Addr} {n j : Nat} {i : Int} {cpos apos : Pos} (ho : DX X T B o ρ S (.ref l) S1) (he : DX X T B e ρ S1 (.int i) S2) (h0 : ∃ ys, (l, D.lst ys) ∈ S1) (hk : S2[n]? = some (l, .lst xs)) (hi : 0 ≤ i ∧ i < xs.length) (hj : j = i.toNat) (hl : xs.length < 100000) (kk : DSs X T B rest ρ (S2.set n (l, .lst (xs.eraseIdx j))) P)
    (hbase : attributeBase o "pop" X.env (eval o X.env) = eval o X.env := by rfl)
    (hfew : ((backTo cpos (starEach (e :: []) X.env)).all (fun x => !x.1) && (backToKw cpos (keywordEach [] X.env)).all (fun x => x.1.isSome)
      && decide ((e :: []).length + ([] : List Keyword).length + (if ([] : List Keyword).isEmpty then 0 else 1) < 30)) = true := by rfl)
    (hline : (apos.endLine == cpos.line) = true := by rfl) (h1 : starEach (e :: []) X.env = (false, eval e X.env) :: starEach [] X.env := by rfl) (hplain : (backTo cpos (starEach [] X.env)).any (·.1) = false := by rfl)
    (hs : swapsWith (.Call (.Attribute o "pop" apos) [e] [] cpos) none pos.line X.env = pure false := by rfl) : DSs X T B (.Expr (.Call (.Attribute o "pop" apos) [e] [] cpos) pos :: rest) ρ S P :=
  dss_cons fun σ H g s =>
  wS_of (ps_expr (pe_bm PySem.F.plainAttrs_list PySem.F.slot_list_pop PySem.F.type_list_pop mt_popAt pe_w (pa_cons pe_w pa_nil h1) hbase hfew hline h1 hplain) hs) (wE_mono (ho σ H g s) fun v H1 ⟨d1, T1, ⟨e1, e2⟩, r1, g1, x1⟩ => by
    subst e1; subst e2; cases r1
    obtain ⟨ys, hy⟩ := h0
    obtain ⟨us, hu, _⟩ := g1.g.own _ hy
    refine ⟨.inl ⟨rfl, us, SqL.of hu⟩, wE_mono (he σ H1 g1 (s.ext x1)) fun v2 H2 ⟨d2, T2, ⟨e3, e4⟩, r2, g2, x2⟩ => ?_⟩
    subst e3; subst e4
    cases r2
    obtain ⟨ws, h1, h2⟩ := g2.g.own _ (List.mem_of_getElem? hk)
    have hlen := h2.length
    have xw : Ext (mm T2) (mm T2) H2 (upd H2 l (.lst (ws.eraseIdx j))) := by
      have := Ext.write (o := .lst (ws.eraseIdx j)) (d := .lst (xs.eraseIdx j)) g2.g hk
      rw [mm_set _ _ _ _ _ hk] at this
      exact this
    have gw := g2.g.write (o := .lst (ws.eraseIdx j)) (d := .lst (xs.eraseIdx j)) hk ⟨_, upd_same, (h2.ext xw).eraseIdx j⟩
    have xw2 := Ext.write (o := .lst (ws.eraseIdx j)) (d := .lst (xs.eraseIdx j)) g2.g hk
    have hjl : j < ws.length := by rw [hlen, hj]; omega
    refine ⟨l, ws, i, j, ws[j], rfl, rfl, h1, by omega, by have := hi.2; omega, ?_, List.getElem?_eq_getElem hjl, ρ, _, kk, g2.to xw2 gw, s.ext ((x1.trans x2).trans xw2)⟩
    unfold PySem.seqIndex?
    have hn : ¬ i < 0 := by omega
    have h2 := hi.2
    simp only [hn, if_false]
    rw [if_pos (by simp; omega), hj])
end
end DL
set_option Elab.async false
set_option linter.all false
set_option maxRecDepth 100000
set_option maxHeartbeats 1000000
namespace SB
open PySem PySem.Spec PyProof.Rows L2 DL
/-! ### what a box of masks has; clean boxes -/
def hasI : List Int → List Int → Bool
  | a :: k, b :: l => (Builtin.bitAnd a b != 0) && hasI k l
  | _, _ => true
theorem hasI_all : ∀ {k l : List Int}, k.length = l.length → ((List.range k.length).all fun i => Builtin.bitAnd (k.getD i 0) (l.getD i 0) != 0) = hasI k l
  | [], [], _ => rfl
  | [], _ :: _, h => by simp at h
  | _ :: _, [], h => by simp at h
  | a :: k, b :: l, h => by
    have ih := hasI_all (k := k) (l := l) (by simpa using h)
    rw [List.length_cons, List.range_succ_eq_map, List.all_cons, List.all_map]
    show ((Builtin.bitAnd a b != 0) && _) = _
    rw [hasI, ← ih]
    rfl
def cleanI (m : List Int) (zs : List (List Int)) : Bool := !zs.any fun z => hasI m z
section
variable {P : Program} {w : World} {K : PySem.W.Frag} {mg : Str → Option Value} {base : Heap} {T : List Addr}
abbrev s_box_has : Stmt := top 4
theorem sc_box_has : FnScope ["box", "thing", "mask", "single"] ["box", "thing"] (defScope s_box_has) := ⟨rfl, rfl, rfl, by decide +kernel, rfl, by decide +kernel, by decide +kernel⟩
-- box=0 thing=1 mask=2 single=3
def F_boxHas : FT := fun ds S P _ => ∃ (x y : D) (a b : List Int), ds = [x, y] ∧ TupV x (a.map D.int) ∧ TupV y (b.map D.int) ∧ a.length = b.length ∧ a.length ≤ 100 ∧ P (.bl (hasI a b)) S
theorem fd_boxHas {f c p : Addr} {fd : FuncData} (F : FunC K "box_has" "box_has" s_box_has f fd c) (b : BI mg) (tb : TabOk base mg T c p) (hb : Binds K fd ["box", "thing"] []) : FD P w K mg base T CX0 2 f fd ["box", "thing"] F_boxHas := by
  refine fd_g F sc_box_has hb (fun ds S P PX h => by obtain ⟨_, _, _, _, rfl, _⟩ := h; rfl) (fun A outer st H E B ds S Q PX hr hF => ?_)
  obtain ⟨x, y, k, l, rfl, hx, hy, hl, h1, hQ⟩ := hF
  have lenZ : (zipD (k.map D.int) (l.map D.int)).length = k.length := by rw [zipD_length, List.length_map, List.length_map]; omega
  refine qs_ret (d := .bl (hasI k l)) (S' := S) (DX.cast (dx_all (k := 0) (xs := zipD (k.map D.int) (l.map D.int)) (V := fun _ => True) (own := [("mask", 2), ("single", 3)]) (val := fun i => .int (Builtin.bitAnd (k.getD i 0) (l.getD i 0))) b.all rfl hr tb.tb rfl tb.mem rfl sc_box_has.nd (blkOk_by (own := [("mask", 2), ("single", 3)]) (N := ["box", "thing", "mask", "single"]) (sc := defScope s_box_has) (by decide +kernel)) (di_zip b.zip rfl (hx.dx (dx_var 0 rfl)) (hy.dx (dx_var 1 rfl))) ⟨fun i x hx => ?_, trivial⟩ (fun i _ => .inr ⟨_, rfl⟩)) ?_ rfl) ⟨_, _, Fz.refl, hQ⟩
  · obtain ⟨u1, u2, h2, h3, rfl⟩ := zipD_of hx
    rw [List.getElem?_map] at h2 h3
    obtain ⟨a1, e1, rfl⟩ := Option.map_eq_some_iff.mp h2
    obtain ⟨a2, e2, rfl⟩ := Option.map_eq_some_iff.mp h3
    have g1 : k.getD i 0 = a1 := by simp [List.getD, e1]
    have g2 : l.getD i 0 = a2 := by simp [List.getD, e2]
    simp only [g1, g2]
    refine ⟨_, _, ?_, fun s H code fp pn => dg_pair 2 3 sc_box_has.nd rfl, fun s H code fp pn B' hB' => (dx_band (dx_var 2 rfl) (dx_var 3 rfl))⟩
    intro j hj; simpa using hj
  · rw [lenZ, ← hasI_all hl]
    rfl
abbrev s_is_clean : Stmt := top 6
theorem sc_is_clean : FnScope ["box", "zeros", "zero"] ["box", "zeros"] (defScope s_is_clean) := ⟨rfl, rfl, rfl, by decide +kernel, rfl, by decide +kernel, by decide +kernel⟩
-- box=0 zeros=1 zero=2
def F_clean : FT := fun ds S P _ => ∃ (x : D) (m : List Int) (zs : List (List Int)), ds = [x, .lst (zs.map mD)] ∧ TupV x (m.map D.int) ∧ (∀ z ∈ zs, m.length = z.length) ∧ m.length ≤ 100 ∧ P (.bl (cleanI m zs)) S
theorem fd_clean {f c p : Addr} {fd : FuncData} (F : FunC K "is_clean" "is_clean" s_is_clean f fd c) (b : BI mg) (hany : mg "any" = none) (tb : TabOk base mg T c p) (hh : FN P w K mg base T CX0 2 "box_has" ["box", "thing"] F_boxHas) (hb : Binds K fd ["box", "zeros"] []) : FD P w K mg base T CX0 4 f fd ["box", "zeros"] F_clean := by
  refine fd_g F sc_is_clean hb (fun ds S P PX h => by obtain ⟨_, _, _, rfl, _⟩ := h; rfl) (fun A outer st H E B ds S Q PX hr hF => ?_)
  obtain ⟨x, m, zs, rfl, hx, hl, h1, hQ⟩ := hF
  have lenZ : (zs.map mD).length = zs.length := List.length_map _
  refine qs_ret (d := .bl (cleanI m zs)) (S' := S) (DX.cast (dx_not (dx_any (k := 2) (xs := zs.map mD) (V := fun _ => True) (own := [("zero", 2)]) (val := fun i => .bl (hasI m (zs.getD i []))) hany rfl hr tb.tb rfl tb.mem rfl sc_is_clean.nd (blkOk_by (own := [("zero", 2)]) (N := ["box", "zeros", "zero"]) (sc := defScope s_is_clean) (by decide +kernel)) (di_lst (dx_var 1 rfl)) ⟨fun i x hx => ?_, trivial⟩ (fun i _ => .inl ⟨_, rfl⟩))) ?_ rfl) ⟨_, _, Fz.refl, hQ⟩
  · rw [List.getElem?_map] at hx
    obtain ⟨z, hz, rfl⟩ := Option.map_eq_some_iff.mp hx
    have g1 : zs.getD i [] = z := by simp [List.getD, hz]
    simp only [g1]
    refine ⟨_, _, ?_, fun s H code fp pn => dg_name 2 sc_is_clean.nd, fun s H code fp pn B' hB' => de_call hh (GX.gA_room hr) rfl pass0 (da_cons (dx_var 0 rfl) (da_cons (dx_var 2 rfl) da_nil)) ⟨_, _, m, z, rfl, ‹_›, .inl rfl, hl z (List.mem_of_getElem? hz), h1, rfl, rfl⟩⟩
    intro j hj; simpa using hj
  · rw [lenZ]
    unfold cleanI
    have e : ((List.range zs.length).any fun i => trD (D.bl (hasI m (zs.getD i [])))) = zs.any fun z => hasI m z := by
      have en : zs = (List.range zs.length).map fun i => zs.getD i [] := by
        apply List.ext_getElem
        · simp
        · intro i h1 h2
          simp [List.getElem?_eq_getElem h1]
      conv => rhs; rw [en]
      rw [List.any_map]
      rfl
    rw [e]
end
end SB
set_option Elab.async false
set_option linter.all false
set_option maxRecDepth 100000
set_option maxHeartbeats 1000000
namespace SB
open PySem PySem.Spec PyProof.Rows L2 DL
/-! ### the law's own lists: parts, boxes, things -/
def partOf (us : List Str) (x : Nat) : List Str := ((List.range us.length).filter fun k => x.testBit k).map fun k => us.getD k ⟨#[]⟩
def partsL (us : List Str) : List (List Str) := (List.range (2 ^ us.length - 1)).map fun j => partOf us (j + 1)
def boxD (b : List (List Str)) : D := .lst (b.map partD)
def growL (bs : List (List (List Str))) (us : List Str) : List (List (List Str)) := bs.flatMap fun b => (partsL us).map fun p => b ++ [p]
def boxesL (fs : List (List Str)) : List (List (List Str)) := fs.foldl growL [[]]
def thingL (ts : List (List Str)) (us : List Str) : List (List Str) := ts.flatMap fun t => us.map fun m => t ++ [m]
def thingsL (fs : List (List Str)) : List (List Str) := fs.foldl thingL [[]]
def fitsB (b : List (List Str)) (rs : List (List Str × Int)) : Bool := rs.all fun r => hasB b r.1 == decide (r.2 = 1)
theorem bit_test (x k : Nat) : decide (Builtin.bitAnd ((x : Int) / 2 ^ k) 1 = 1) = x.testBit k := by
  have e : (x : Int) / 2 ^ k = ((x / 2 ^ k : Nat) : Int) := by simp
  have e2 : Builtin.bitAnd ((x / 2 ^ k : Nat) : Int) 1 = ((x / 2 ^ k % 2 : Nat) : Int) := by
    show (((x / 2 ^ k) &&& 1 : Nat) : Int) = _
    rw [Nat.and_one_is_mod]
  rw [e, e2, Nat.testBit_eq_decide_div_mod_eq]
  exact decide_eq_decide.mpr (by omega)
theorem growL_len (bs : List (List (List Str))) (us : List Str) : (growL bs us).length = bs.length * (2 ^ us.length - 1) := by
  unfold growL partsL
  induction bs with
  | nil => simp
  | cons b bs ih => rw [List.flatMap_cons, List.length_append, ih, List.length_map, List.length_map, List.length_range, List.length_cons, Nat.succ_mul]; omega
theorem growL_take (bs : List (List (List Str))) (us : List Str) {j : Nat} {b : List (List Str)} (h : bs[j]? = some b) : growL (bs.take (j + 1)) us = growL (bs.take j) us ++ (partsL us).map fun p => b ++ [p] := by
  have tk : bs.take (j + 1) = bs.take j ++ [b] := by rw [List.take_succ, h]; rfl
  rw [tk]
  unfold growL
  rw [List.flatMap_append]
  simp
theorem boxesL_take (fs : List (List Str)) {i : Nat} {us : List Str} (h : fs[i]? = some us) : boxesL (fs.take (i + 1)) = growL (boxesL (fs.take i)) us := by
  have tk : fs.take (i + 1) = fs.take i ++ [us] := by rw [List.take_succ, h]; rfl
  rw [tk]
  unfold boxesL
  rw [List.foldl_append]
  rfl
def boxesR : List (List Str) → List (List (List Str))
  | [] => [[]]
  | us :: fs => (partsL us).flatMap fun p => (boxesR fs).map (p :: ·)
theorem boxesL_R (fs : List (List Str)) : boxesL fs = boxesR fs := by
  have : ∀ (fs : List (List Str)) (bs : List (List (List Str))), fs.foldl growL bs = bs.flatMap fun b => (boxesR fs).map (b ++ ·) := by
    intro fs
    induction fs with
    | nil => intro bs; simp [boxesR]
    | cons us fs ih =>
      intro bs
      rw [List.foldl_cons, ih]
      unfold growL
      rw [List.flatMap_assoc]
      congr 1
      funext b
      simp only [boxesR, List.map_flatMap, List.flatMap_map, List.map_map]
      congr 1
      funext p
      congr 1
      funext c
      simp
  unfold boxesL
  rw [this]
  simp
theorem boxesR_mem : ∀ {fs : List (List Str)} {b : List (List Str)}, b ∈ boxesR fs → b.length = fs.length
  | [], b, h => by simp [boxesR] at h; simp [h]
  | us :: fs, b, h => by
    simp only [boxesR, List.mem_flatMap, List.mem_map] at h
    obtain ⟨p, _, c, hc, rfl⟩ := h
    rw [List.length_cons, List.length_cons, boxesR_mem hc]
def thingsR : List (List Str) → List (List Str)
  | [] => [[]]
  | us :: fs => us.flatMap fun m => (thingsR fs).map (m :: ·)
theorem thingsL_R (fs : List (List Str)) : thingsL fs = thingsR fs := by
  have : ∀ (fs : List (List Str)) (bs : List (List Str)), fs.foldl thingL bs = bs.flatMap fun b => (thingsR fs).map (b ++ ·) := by
    intro fs
    induction fs with
    | nil => intro bs; simp [thingsR]
    | cons us fs ih =>
      intro bs
      rw [List.foldl_cons, ih]
      unfold thingL
      rw [List.flatMap_assoc]
      congr 1
      funext b
      simp only [thingsR, List.map_flatMap, List.flatMap_map, List.map_map]
      congr 1
      funext p
      congr 1
      funext c
      simp
  unfold thingsL
  rw [this]
  simp
theorem thingsR_ok : ∀ {fs : List (List Str)} {t : List Str}, t ∈ thingsR fs → ThingOk fs t
  | [], t, h => by
    simp [thingsR] at h
    subst h
    exact ⟨rfl, fun i us t h _ => by simp at h⟩
  | us :: fs, t, h => by
    simp only [thingsR, List.mem_flatMap, List.mem_map] at h
    obtain ⟨m, hm, c, hc, rfl⟩ := h
    have ih := thingsR_ok hc
    refine ⟨by rw [List.length_cons, List.length_cons, ih.len], fun i vs x h1 h2 => ?_⟩
    cases i with
    | zero => simp at h1 h2; subst h1; subst h2; exact hm
    | succ i => exact ih.mem i vs x (by simpa using h1) (by simpa using h2)
theorem pow3 {n : Nat} (h : n ≤ 3) : 2 ^ n - 1 ≤ 7 := by
  have : ∀ n < 4, 2 ^ n - 1 ≤ 7 := by decide
  exact this n (by omega)
theorem boxesL_len : ∀ {fs : List (List Str)}, (∀ us ∈ fs, us.length ≤ 3) → (boxesL fs).length ≤ 7 ^ fs.length := by
  intro fs
  have : ∀ (fs : List (List Str)) (bs : List (List (List Str))), (∀ us ∈ fs, us.length ≤ 3) → (fs.foldl growL bs).length ≤ bs.length * 7 ^ fs.length := by
    intro fs
    induction fs with
    | nil => intro bs _; simp
    | cons us fs ih =>
      intro bs h
      rw [List.foldl_cons, List.length_cons]
      refine Nat.le_trans (ih _ fun u hu => h u (List.mem_cons_of_mem _ hu)) ?_
      rw [growL_len, Nat.pow_succ, Nat.mul_comm (7 ^ _) 7, ← Nat.mul_assoc]
      exact Nat.mul_le_mul_right _ (Nat.mul_le_mul_left _ (pow3 (h us List.mem_cons_self)))
  intro h
  have := this fs [[]] h
  simpa [boxesL] using this
theorem thingL_len (ts : List (List Str)) (us : List Str) : (thingL ts us).length = ts.length * us.length := by
  unfold thingL
  induction ts with
  | nil => simp
  | cons t ts ih => rw [List.flatMap_cons, List.length_append, ih, List.length_map, List.length_cons, Nat.succ_mul]; omega
theorem thingL_take (ts : List (List Str)) (us : List Str) {j : Nat} {t : List Str} (h : ts[j]? = some t) : thingL (ts.take (j + 1)) us = thingL (ts.take j) us ++ us.map fun m => t ++ [m] := by
  have tk : ts.take (j + 1) = ts.take j ++ [t] := by rw [List.take_succ, h]; rfl
  rw [tk]
  unfold thingL
  rw [List.flatMap_append]
  simp
theorem thingsL_take (fs : List (List Str)) {i : Nat} {us : List Str} (h : fs[i]? = some us) : thingsL (fs.take (i + 1)) = thingL (thingsL (fs.take i)) us := by
  have tk : fs.take (i + 1) = fs.take i ++ [us] := by rw [List.take_succ, h]; rfl
  rw [tk]
  unfold thingsL
  rw [List.foldl_append]
  rfl
theorem thingsL_len : ∀ {fs : List (List Str)}, (∀ us ∈ fs, us.length ≤ 6) → (thingsL fs).length ≤ 6 ^ fs.length := by
  intro fs
  have : ∀ (fs : List (List Str)) (bs : List (List Str)), (∀ us ∈ fs, us.length ≤ 6) → (fs.foldl thingL bs).length ≤ bs.length * 6 ^ fs.length := by
    intro fs
    induction fs with
    | nil => intro bs _; simp
    | cons us fs ih =>
      intro bs h
      rw [List.foldl_cons, List.length_cons]
      refine Nat.le_trans (ih _ fun u hu => h u (List.mem_cons_of_mem _ hu)) ?_
      rw [thingL_len, Nat.pow_succ, Nat.mul_comm (6 ^ _) 6, ← Nat.mul_assoc]
      exact Nat.mul_le_mul_right _ (Nat.mul_le_mul_left _ (h us List.mem_cons_self))
  intro h
  have := this fs [[]] h
  simpa [thingsL] using this
/-! ### boxes as Names -/
def namesOf (us : List Str) (m : Int) : List Str := partOf (srt us) m.toNat
def boxN : List (List Str) → List Int → List (List Str)
  | us :: fs, m :: k => namesOf us m :: boxN fs k
  | _, _ => []
theorem boxN_len : ∀ {fs : List (List Str)} {k : List Int}, k.length = fs.length → (boxN fs k).length = fs.length
  | [], [], _ => rfl
  | [], _ :: _, h => by simp at h
  | _ :: _, [], h => by simp at h
  | us :: fs, m :: k, h => by rw [boxN, List.length_cons, boxN_len (by simpa using h), List.length_cons]
theorem boxN_get : ∀ {fs : List (List Str)} {k : List Int} {i : Nat} {us : List Str} {m : Int}, fs[i]? = some us → k[i]? = some m → (boxN fs k)[i]? = some (namesOf us m)
  | [], _, _, _, _, h, _ => by simp at h
  | _ :: _, [], _, _, _, _, h => by simp at h
  | us :: fs, m :: k, 0, _, _, h, h2 => by simp at h h2; subst h; subst h2; rfl
  | us :: fs, m :: k, i + 1, _, _, h, h2 => by
    rw [boxN]
    simpa using boxN_get (by simpa using h) (by simpa using h2)
theorem bit_tru {m : Int} (h : 0 ≤ m) (k : Nat) : (Builtin.bitAnd (m / 2 ^ k) 1 != 0) = m.toNat.testBit k := by
  obtain ⟨x, rfl⟩ := Int.eq_ofNat_of_zero_le h
  have e : (x : Int) / 2 ^ k = ((x / 2 ^ k : Nat) : Int) := by simp
  have e2 : Builtin.bitAnd ((x / 2 ^ k : Nat) : Int) 1 = ((x / 2 ^ k % 2 : Nat) : Int) := by
    show (((x / 2 ^ k) &&& 1 : Nat) : Int) = _
    rw [Nat.and_one_is_mod]
  rw [e, e2, Int.toNat_natCast, Nat.testBit_eq_decide_div_mod_eq]
  have : ∀ n : Nat, n < 2 → ((((n : Nat) : Int) != 0) = decide (n = 1)) := by decide
  exact this _ (Nat.mod_lt _ (by decide))
section
variable {P : Program} {w : World} {K : PySem.W.Frag} {mg : Str → Option Value} {base : Heap} {T : List Addr}
abbrev s_part_names : Stmt := inClass (top 2) 4
theorem sc_part_names : FnScope ["self", "place", "mask", "number", "name"] ["self", "place", "mask"] (defScope s_part_names) := ⟨rfl, rfl, rfl, by decide +kernel, rfl, by decide +kernel, by decide +kernel⟩
-- self=0 place=1 mask=2 number=3 name=4
def F_partNames (C : Addr) : FT := fun ds S P _ => ∃ (fs : List (List Str)) (i : Nat) (us : List Str) (m : Int), ds = [spaceD C fs, .int (i : Nat), .int m] ∧ fs[i]? = some us ∧ us.length ≤ 6 ∧ 0 ≤ m ∧ P (fieldD (namesOf us m)) S
theorem fd_partNames {f C : Addr} {fd : FuncData} (F : Fun K "part_names" "Space.part_names" s_part_names f fd) (b : BI mg) (hen : mg "enumerate" = none) (sc : SpC K C) (hb : Binds K fd ["self", "place", "mask"] []) : FD P w K mg base T CX0 1 f fd ["self", "place", "mask"] (F_partNames C) := by
  refine fd_d F sc_part_names hb (fun ds S P PX h => by obtain ⟨_, _, _, _, rfl, _⟩ := h; rfl) (fun cdv A outer st H E B ds S Q PX hr hF => ?_)
  obtain ⟨fs, i, us, m, rfl, hus, h6, h0, hQ⟩ := hF
  have hi := (List.getElem?_eq_some_iff.mp hus).1
  have lenF : (fs.map rowF).length = fs.length := List.length_map _
  have ix : atI (fs.map rowF) (i : Int) = some (rowF us) := by
    unfold atI ixN
    rw [lenF, if_pos (by omega), if_pos (by omega), Int.toNat_natCast]
    show (fs.map rowF)[i]? = _
    rw [List.getElem?_map, hus]; rfl
  have en : enumD 0 ((srt us).map D.str) = (List.range us.length).map fun k => D.tup [.int (k : Nat), .str ((srt us).getD k ⟨#[]⟩)] := by
    apply List.ext_getElem
    · rw [enumD_length, List.length_map, List.length_map, List.length_range, srt_length]
    · intro j h1 h2
      have hj : j < (srt us).length := by rw [enumD_length, List.length_map] at h1; exact h1
      have e1 : ((srt us).map D.str)[j]? = some (.str (srt us)[j]) := by rw [List.getElem?_map, List.getElem?_eq_getElem hj]; rfl
      have e2 := enumD_get 0 e1
      rw [List.getElem?_eq_getElem h1, Nat.zero_add] at e2
      rw [Option.some.inj e2, List.getElem_map, List.getElem_range, List.getD_eq_getElem?_getD, List.getElem?_eq_getElem hj]
      rfl
  have res : ((List.range us.length).filter fun k => m.toNat.testBit k).map (fun k => D.str ((srt us).getD k ⟨#[]⟩)) = (namesOf us m).map D.str := by
    unfold namesOf partOf
    rw [List.map_map, srt_length]
    rfl
  refine qs_ret (d := fieldD (namesOf us m)) (S' := S) (dx_tuple b.tuple rfl (DX.cast (DN.dx (dn_lcf (V := fun _ => True) (own := [("number", 3), ("name", 4)]) (List.range us.length) (fun k => D.tup [.int (k : Nat), .str ((srt us).getD k ⟨#[]⟩)]) (fun k => m.toNat.testBit k) (fun k => .str ((srt us).getD k ⟨#[]⟩)) rfl sc_part_names.nd
    (by rw [← en]; exact di_enumT hen rfl (DX.unF (dx_ixT (dx_fld (C := C) (gs := spaceL fs) (dx_var 0 rfl) Vw.rfl' sc.cl sc.names rfl) (dx_var 1 rfl) ix))) (blkOk_by (own := [("number", 3), ("name", 4)]) (N := ["self", "place", "mask", "number", "name"]) (sc := defScope s_part_names) (by decide +kernel)) (by rw [List.length_range]; omega) (fun _ _ => trivial) ⟨fun j a ha hm => ?_⟩)) (by rw [res]) rfl) (.inl Vw.rfl')) ⟨_, _, Fz.refl, hQ⟩
  refine ⟨_, _, ?_, fun s H C cl fp => dg_pair 3 4 sc_part_names.nd rfl, fun s H C cl fp B' L acc hB' => dts_one (DT.cast (dt_truI (dx_band (dx_shr (dx_var 2 rfl) (dx_var 3 rfl) (by omega)) dx_int)) (by rw [Int.toNat_natCast]; exact bit_tru h0 _)), fun _ s H C cl fp B' L acc hB' => (dx_var 4 rfl)⟩
  intro j hj; simpa using hj
abbrev s_box_names : Stmt := inClass (top 2) 5
theorem sc_box_names : FnScope ["self", "box", "place", "mask"] ["self", "box"] (defScope s_box_names) := ⟨rfl, rfl, rfl, by decide +kernel, rfl, by decide +kernel, by decide +kernel⟩
-- self=0 box=1 place=2 mask=3
def F_boxNames (C : Addr) : FT := fun ds S P _ => ∃ (fs : List (List Str)) (x : D) (k : List Int), ds = [spaceD C fs, x] ∧ TupV x (k.map D.int) ∧ MaskOk fs k ∧ fs.length ≤ 6 ∧ (∀ us ∈ fs, us.length ≤ 6) ∧ P (.tup ((boxN fs k).map fieldD)) S
theorem fd_boxNames {f C : Addr} {fd : FuncData} (F : Fun K "box_names" "Space.box_names" s_box_names f fd) (b : BI mg) (hen : mg "enumerate" = none) (sc : SpC K C) (hp : FM P w K mg base T CX0 1 C "part_names" ["self", "place", "mask"] (F_partNames C)) (hb : Binds K fd ["self", "box"] []) : FD P w K mg base T CX0 2 f fd ["self", "box"] (F_boxNames C) := by
  refine fd_d F sc_box_names hb (fun ds S P PX h => by obtain ⟨_, _, _, rfl, _⟩ := h; rfl) (fun cdv A outer st H E B ds S Q PX hr hF => ?_)
  obtain ⟨fs, x, k, rfl, hx, ok, f6, hf6, hQ⟩ := hF
  have lk := ok.len
  have en : enumD 0 (k.map D.int) = (List.range k.length).map fun i => D.tup [.int (i : Nat), .int (k.getD i 0)] := by
    apply List.ext_getElem
    · rw [enumD_length, List.length_map, List.length_map, List.length_range]
    · intro j h1 h2
      have hj : j < k.length := by rw [enumD_length, List.length_map] at h1; exact h1
      have e1 : (k.map D.int)[j]? = some (.int k[j]) := by rw [List.getElem?_map, List.getElem?_eq_getElem hj]; rfl
      have e2 := enumD_get 0 e1
      rw [List.getElem?_eq_getElem h1, Nat.zero_add] at e2
      rw [Option.some.inj e2, List.getElem_map, List.getElem_range, List.getD_eq_getElem?_getD, List.getElem?_eq_getElem hj]
      rfl
  have res : (List.range k.length).map (fun i => fieldD (namesOf (fs.getD i []) (k.getD i 0))) = (boxN fs k).map fieldD := by
    apply List.ext_getElem
    · rw [List.length_map, List.length_map, List.length_range, boxN_len lk, lk]
    · intro j h1 h2
      have hj : j < k.length := by rw [List.length_map, List.length_range] at h1; exact h1
      have hf : j < fs.length := by omega
      have e1 := boxN_get (List.getElem?_eq_getElem hf) (List.getElem?_eq_getElem hj)
      rw [List.getElem_map, List.getElem_range, List.getElem_map]
      have e2 : (boxN fs k)[j]'(by rw [boxN_len lk]; exact hf) = namesOf fs[j] k[j] := by
        have := List.getElem?_eq_getElem (l := boxN fs k) (i := j) (by rw [boxN_len lk]; exact hf)
        rw [e1] at this
        exact (Option.some.inj this).symm
      rw [e2, List.getD_eq_getElem?_getD, List.getElem?_eq_getElem hf, List.getD_eq_getElem?_getD, List.getElem?_eq_getElem hj]
      rfl
  refine qs_ret (d := .tup ((boxN fs k).map fieldD)) (S' := S) (dx_tuple b.tuple rfl (DX.cast (DN.dx (dn_lcm (V := fun _ => True) (own := [("place", 2), ("mask", 3)]) (List.range k.length) (fun i => D.tup [.int (i : Nat), .int (k.getD i 0)]) (fun i => fieldD (namesOf (fs.getD i []) (k.getD i 0))) rfl sc_box_names.nd
    (by rw [← en]; exact di_enumT hen rfl (hx.dx (dx_var 1 rfl))) (blkOk_by (own := [("place", 2), ("mask", 3)]) (N := ["self", "box", "place", "mask"]) (sc := defScope s_box_names) (by decide +kernel)) (by rw [List.length_range]; omega) (fun _ _ => trivial) (fun j a ha hm => ?_))) (by rw [res]) rfl) (.inl Vw.rfl')) ⟨_, _, Fz.refl, hQ⟩
  have hj := List.mem_range.mp hm
  have hf : a < fs.length := by omega
  have hu := List.getElem?_eq_getElem hf
  have hk := List.getElem?_eq_getElem hj
  have g1 : fs.getD a [] = fs[a] := by rw [List.getD_eq_getElem?_getD, hu]; rfl
  have g2 : k.getD a 0 = k[a] := by rw [List.getD_eq_getElem?_getD, hk]; rfl
  rw [g1, g2]
  refine ⟨_, _, ?_, fun s H C cl fp => dg_pair 2 3 sc_box_names.nd rfl, fun s H C' cl fp B' L acc hB' => de_meth hp (hr.mono (by omega)) sc.cl pass0 (dx_var 0 rfl) Vw.rfl' rfl (da_cons (dx_var 2 rfl) (da_cons (dx_var 3 rfl) da_nil)) ⟨fs, a, fs[a], k[a], rfl, hu, hf6 _ (List.getElem_mem hf), (ok.mem a _ _ hu hk).1, rfl, rfl⟩⟩
  intro j hj; simpa using hj
end
end SB
set_option Elab.async false
set_option linter.all false
set_option maxRecDepth 100000
set_option maxHeartbeats 1000000
namespace SB
open PySem PySem.Spec PyProof.Rows L2 DL
section
/-! ### data of rows, equal to itself -/
def rowP (r : List Str × Int) : PyData := .tuple [.tuple (r.1.map PyData.str), .int r.2]
theorem pd_rows : ∀ rs : List (List Str × Int), PDs (rs.map rowD) (rs.map rowP)
  | [] => .nil
  | r :: rs => .cons (.tup (.cons (.tup (PDs.strs r.1)) (.cons (.int r.2) .nil))) (pd_rows rs)
theorem eqv_rows : ∀ rs : List (List Str × Int), PyData.eqvAll (rs.map rowP) (rs.map rowP) = true
  | [] => rfl
  | r :: rs => by
    rw [List.map_cons, PyData.eqvAll, eqv_rows rs, Bool.and_true]
    unfold rowP
    rw [PyData.eqv, PyData.eqvAll, PyData.eqv, eqvAll_strs, PyData.eqvAll, PyData.eqvAll, Bool.true_and, Bool.and_true]
    show (r.2 == r.2) = true
    exact beq_self_eq_true _
theorem strOk_great {u : Str} (h : Great u) : PyData.strOk u = true := by
  obtain ⟨c, r, e, h1, h2, h3⟩ := h
  unfold PyData.strOk
  rw [← Array.all_toList, e, List.all_eq_true]
  intro x hx
  rcases List.mem_cons.mp hx with z | z
  · subst z; exact decide_eq_true (by omega)
  · have := h3 x z
    unfold isSign at this
    simp at this
    exact decide_eq_true (by omega)
theorem can_strs : ∀ ts : List Str, (∀ t ∈ ts, Great t) → PyData.canLayAll0 (ts.map PyData.str) = true
  | [], _ => rfl
  | t :: ts, h => by
    rw [List.map_cons, PyData.canLayAll0, PyData.canLay0, strOk_great (h t List.mem_cons_self), can_strs ts fun u hu => h u (List.mem_cons_of_mem _ hu)]; rfl
theorem depth_strs : ∀ ts : List Str, PyData.depthAll (ts.map PyData.str) = 0
  | [] => rfl
  | t :: ts => by rw [List.map_cons, PyData.depthAll, depth_strs ts, PyData.depth]; rfl
theorem can_rows : ∀ rs : List (List Str × Int), (∀ r ∈ rs, ∀ t ∈ r.1, Great t) → PyData.canLayAll0 (rs.map rowP) = true ∧ PyData.depthAll (rs.map rowP) ≤ 2
  | [], _ => ⟨rfl, Nat.zero_le _⟩
  | r :: rs, h => by
    obtain ⟨a, c⟩ := can_rows rs fun q hq => h q (List.mem_cons_of_mem _ hq)
    refine ⟨?_, ?_⟩
    · rw [List.map_cons, PyData.canLayAll0, a]
      unfold rowP
      rw [PyData.canLay0, PyData.canLayAll0, PyData.canLay0, can_strs r.1 (h r List.mem_cons_self)]
      rfl
    · rw [List.map_cons, PyData.depthAll]
      unfold rowP at c ⊢
      rw [PyData.depth, PyData.depthAll, PyData.depth, depth_strs, PyData.depthAll, PyData.depth, PyData.depthAll]
      omega
theorem shaped_rows {rs : List (List Str × Int)} (h : ∀ r ∈ rs, ∀ t ∈ r.1, Great t) : SeqAt.shaped (.list (rs.map rowP)) = true := by
  obtain ⟨a, c⟩ := can_rows rs h
  unfold SeqAt.shaped
  rw [PyData.canLay0, a, PyData.depth, Bool.true_and]
  exact decide_eq_true (by omega)
theorem row_great {fs : List (List Str)} {rs : List (List Str × Int)} (hf : ∀ us ∈ fs, FieldOk 6 us) (hr : ∀ r ∈ rs, RowOk fs r) : ∀ r ∈ rs, ∀ t ∈ r.1, Great t := fun r h t ht => by
  have ok := (hr r h).th
  obtain ⟨i, hi⟩ := List.getElem?_of_mem ht
  have hl : i < fs.length := by rw [← ok.len]; exact (List.getElem?_eq_some_iff.mp hi).1
  have hu := List.getElem?_eq_getElem hl
  exact (hf _ (List.getElem_mem hl)).nm.gr t (ok.mem i _ t hu hi)
end
/-! ### handed boxes -/
def boxOkB : List (List Str) → List (List Str) → Bool
  | us :: fs, p :: ps => !p.isEmpty && decide (p = (srt us).filter fun t => decide (t ∈ p)) && boxOkB fs ps
  | [], [] => true
  | _, _ => false
theorem boxOkB_len : ∀ {fs ps : List (List Str)}, boxOkB fs ps = true → ps.length = fs.length
  | [], [], _ => rfl
  | [], _ :: _, h => by simp [boxOkB] at h
  | _ :: _, [], h => by simp [boxOkB] at h
  | us :: fs, p :: ps, h => by
    rw [boxOkB, Bool.and_eq_true] at h
    rw [List.length_cons, List.length_cons, boxOkB_len h.2]
theorem boxOkB_get : ∀ {fs ps : List (List Str)} {i : Nat} {us p : List Str}, boxOkB fs ps = true → fs[i]? = some us → ps[i]? = some p → p ≠ [] ∧ p = (srt us).filter fun t => decide (t ∈ p)
  | [], _, _, _, _, _, h, _ => by simp at h
  | _ :: _, [], _, _, _, _, _, h => by simp at h
  | us :: fs, p :: ps, 0, _, _, h, h1, h2 => by
    simp at h1 h2
    subst h1; subst h2
    rw [boxOkB, Bool.and_eq_true, Bool.and_eq_true] at h
    refine ⟨fun z => by rw [z] at h; simp at h, of_decide_eq_true h.1.2⟩
  | us :: fs, p :: ps, i + 1, _, _, h, h1, h2 => by
    rw [boxOkB, Bool.and_eq_true] at h
    exact boxOkB_get h.2 (by simpa using h1) (by simpa using h2)
theorem boxOkB_of : ∀ {fs ps : List (List Str)}, ps.length = fs.length → (∀ (i : Nat) us p, fs[i]? = some us → ps[i]? = some p → p ≠ [] ∧ p = (srt us).filter fun t => decide (t ∈ p)) → boxOkB fs ps = true
  | [], [], _, _ => rfl
  | [], _ :: _, h, _ => by simp at h
  | _ :: _, [], h, _ => by simp at h
  | us :: fs, p :: ps, h, H => by
    obtain ⟨h1, h2⟩ := H 0 us p rfl rfl
    rw [boxOkB, boxOkB_of (by simpa using h) fun i us p a c => H (i + 1) us p (by simpa using a) (by simpa using c), ← h2]
    cases p with
    | nil => exact absurd rfl h1
    | cons x xs => simp
theorem boxOkB_not {fs ps : List (List Str)} {i : Nat} {us p : List Str} (h1 : fs[i]? = some us) (h2 : ps[i]? = some p) (h : p = [] ∨ ¬ p = (srt us).filter fun t => decide (t ∈ p)) : boxOkB fs ps = false := by
  cases e : boxOkB fs ps with
  | false => rfl
  | true =>
    obtain ⟨a, c⟩ := boxOkB_get e h1 h2
    rcases h with h | h
    · exact absurd h a
    · exact absurd c h
theorem eqv_strs : ∀ p q : List Str, PyData.eqvAll (p.map PyData.str) (q.map PyData.str) = decide (p = q)
  | [], [] => rfl
  | [], _ :: _ => rfl
  | _ :: _, [] => rfl
  | a :: p, c :: q => by
    rw [List.map_cons, List.map_cons, PyData.eqvAll, eqv_strs p q]
    show ((a == c) && decide (p = q)) = _
    by_cases e : a = c
    · subst e; simp
    · have : (a == c) = false := by simpa using e
      rw [this]
      simp [e]
theorem can_texts : ∀ ts : List Str, (∀ t ∈ ts, PyData.strOk t = true) → PyData.canLayAll0 (ts.map PyData.str) = true
  | [], _ => rfl
  | t :: ts, h => by
    rw [List.map_cons, PyData.canLayAll0, PyData.canLay0, h t List.mem_cons_self, can_texts ts fun u hu => h u (List.mem_cons_of_mem _ hu)]; rfl
theorem shaped_texts {ts : List Str} (h : ∀ t ∈ ts, PyData.strOk t = true) : SeqAt.shaped (.tuple (ts.map PyData.str)) = true := by
  unfold SeqAt.shaped
  rw [PyData.canLay0, can_texts ts h, PyData.depth, depth_strs, Bool.true_and]
  exact decide_eq_true (by omega)
section
variable {P : Program} {w : World} {K : PySem.W.Frag} {mg : Str → Option Value} {base : Heap} {T : List Addr}
abbrev s_is_box : Stmt := top 39
theorem sc_is_box : FnScope ["space", "value", "part", "names", "name"] ["space", "value"] (defScope s_is_box) := ⟨rfl, rfl, rfl, by decide +kernel, rfl, by decide +kernel, by decide +kernel⟩
-- space=0 value=1 part=2 names=3 name=4
def F_isBox (C : Addr) : FT := fun ds S P _ => ∃ (fs : List (List Str)) (d : D), ds = [spaceD C fs, d] ∧ (∀ us ∈ fs, us.length ≤ 6 ∧ ∀ t ∈ us, Great t) ∧
  ((∃ ps : List (List Str), d = .tup (ps.map fieldD) ∧ (∀ p ∈ ps, ∀ t ∈ p, PyData.strOk t = true) ∧ P (.bl (boxOkB fs ps)) S) ∨ ((d = .non ∨ ∃ i, d = .int i) ∧ P (.bl false) S))
theorem fd_isBox {f C : Addr} {fd : FuncData} (F : Fun K "is_box" "is_box" s_is_box f fd) (b : BI mg) (sc : SpC K C) (hb : Binds K fd ["space", "value"] []) : FD P w K mg base T CX0 1 f fd ["space", "value"] (F_isBox C) := by
  refine fd_d F sc_is_box hb (fun ds S P PX h => by obtain ⟨_, _, rfl, _⟩ := h; rfl) (fun cdv A outer st H E B ds S Q PX hr hF => ?_)
  obtain ⟨fs, d, rfl, hf, hQ⟩ := hF
  have rom64 : A.units + 3 + 64 < cLine := by have := hr.un; exact Nat.lt_of_le_of_lt (by show A.units + 3 + 64 ≤ (A.units + 3) + 16 * 0 + 200; omega) this
  rcases hQ with ⟨ps, rfl, hs, hQ⟩ | ⟨hd, hQ⟩
  · have lenP : (ps.map fieldD).length = ps.length := List.length_map _
    have lenF : (fs.map rowF).length = fs.length := List.length_map _
    by_cases hl : ps.length = fs.length
    · refine qs_if (k := false) (DW.dt (dw_orF (DT.cast (dt_not (dt_of (dx_isi (m := "tuple") b.isinstance rfl (dx_var 1 rfl) (dx_ty (n := "tuple") rfl b.tuple (by decide +kernel)) rfl (kit_same _ _)))) rfl) (dw_or1 (DT.cast (dt_neI (dx_lenT b.len rfl (dx_var 1 rfl)) (dx_lenT b.len rfl (dx_fld (C := C) (gs := spaceL fs) (dx_var 0 rfl) Vw.rfl' sc.cl sc.names rfl))) ?_)))) (fun e => nomatch e) (fun _ => qs_nil ?_)
      · rw [lenP, lenF, hl]; simp
      have lenZ : (zipD (ps.map fieldD) (fs.map rowF)).length = fs.length := by rw [zipD_length, lenP, lenF, hl]; omega
      refine qs_for (V := fun _ => True) (xs := zipD (ps.map fieldD) (fs.map rowF)) (fun i ρ S' => (∀ j < i, ∀ us p, fs[j]? = some us → ps[j]? = some p → p ≠ [] ∧ p = (srt us).filter fun t => decide (t ∈ p)) ∧ ∃ v2 v3, S' = S ∧ ρ = [some (spaceD C fs), some (.tup (ps.map fieldD)), v2, v3, none]) PassesOwn.never rfl (di_zip b.zip rfl (dx_var 1 rfl) (dx_fld (C := C) (gs := spaceL fs) (dx_var 0 rfl) Vw.rfl' sc.cl sc.names rfl)) ⟨fun j h => absurd h (by omega), _, _, rfl, rfl⟩ ?_ ?_
      · rintro B' hB i x ρ' S' hx ⟨all, v2, v3, rfl, rfl⟩
        obtain ⟨x1, x2, h1, h2, rfl⟩ := zipD_of hx
        rw [List.getElem?_map] at h1 h2
        obtain ⟨p, hp, rfl⟩ := Option.map_eq_some_iff.mp h1
        obtain ⟨us, hus, rfl⟩ := Option.map_eq_some_iff.mp h2
        obtain ⟨u6, ug⟩ := hf us (List.mem_of_getElem? hus)
        have sp := hs p (List.mem_of_getElem? hp)
        have lenp : (p.map D.str).length = p.length := List.length_map _
        refine ⟨_, _, dg_pair 2 3 sc_is_box.nd rfl, ?_⟩
        refine qs_if (DW.dt (dw_orF (DT.cast (dt_not (dt_of (dx_isi (m := "tuple") b.isinstance rfl (dx_var 2 rfl) (dx_ty (n := "tuple") rfl b.tuple (by decide +kernel)) rfl (kit_same _ _)))) rfl) (dw_or1 (dt_not (dt_truT (dx_var 2 rfl)))))) (fun e => ?_) (fun e => qs_nil ?_)
        · have : p = [] := by cases p with
            | nil => rfl
            | cons => simp at e
          rw [boxOkB_not hus hp (.inl this)] at hQ
          exact qs_ret dx_bl ⟨_, _, Fz.refl, hQ⟩
        · have pn : p ≠ [] := fun z => by rw [z] at e; simp at e
          have sq : ∀ t ∈ (srt us).filter fun t => decide (t ∈ p), PyData.strOk t = true := fun t ht => strOk_great (ug t (srt_mem.mp (List.mem_filter.mp ht).1))
          refine qs_if (dt_neD (px := .tuple (p.map PyData.str)) (py := .tuple (((srt us).filter fun t => decide (t ∈ p)).map PyData.str)) (dx_var 2 rfl) (dx_tuple b.tuple rfl (DN.dx (dn_lcf (V := fun _ => True) (own := [("name", 4)]) (srt us) D.str (fun t => decide (t ∈ p)) D.str rfl sc_is_box.nd
            (di_tup (DX.unF (dx_var 3 rfl))) (blkOk_by (own := [("name", 4)]) (N := ["space", "value", "part", "names", "name"]) (sc := defScope s_is_box) (by decide +kernel)) (by rw [srt_length]; omega) (fun _ _ => trivial) ⟨fun j a ha hm => ?_⟩)) (.inl Vw.rfl')) (.tup (PDs.strs p)) (.tup (PDs.strs _)) (shaped_texts sp) (shaped_texts sq) rom64) (fun e2 => ?_) (fun e2 => qs_nil (qs_nil ⟨fun j hj us' p' hu' hp' => ?_, _, _, rfl, rfl⟩))
          · refine ⟨_, _, ?_, fun s H C cl fp => dg_name 4 sc_is_box.nd, fun s H C cl fp B' L acc hB' => dts_one (dt_inTs (ts := p) (dx_var 4 rfl) (dx_var 2 rfl) (.inr rfl)), fun _ s H C cl fp B' L acc hB' => (dx_var 4 rfl)⟩
            intro j hj; simpa using hj
          · have : ¬ p = (srt us).filter fun t => decide (t ∈ p) := by
              rw [PyData.eqv, eqv_strs] at e2
              simpa using e2
            rw [boxOkB_not hus hp (.inr this)] at hQ
            exact qs_ret dx_bl ⟨_, _, Fz.refl, hQ⟩
          · rw [PyData.eqv, eqv_strs] at e2
            by_cases hji : j < i
            · exact all j hji us' p' hu' hp'
            · have : j = i := by omega
              subst this
              rw [hus] at hu'; rw [hp] at hp'
              cases hu'; cases hp'
              exact ⟨pn, by simpa using e2⟩
      · rintro ρ' S' ⟨all, v2, v3, rfl, rfl⟩
        rw [lenZ] at all
        rw [boxOkB_of hl fun i us p h1 h2 => all i (List.getElem?_eq_some_iff.mp h1).1 us p h1 h2] at hQ
        exact qs_ret dx_bl ⟨_, _, Fz.refl, hQ⟩
    · refine qs_if (k := true) (DW.dt (dw_orF (DT.cast (dt_not (dt_of (dx_isi (m := "tuple") b.isinstance rfl (dx_var 1 rfl) (dx_ty (n := "tuple") rfl b.tuple (by decide +kernel)) rfl (kit_same _ _)))) rfl) (dw_or1 (DT.cast (dt_neI (dx_lenT b.len rfl (dx_var 1 rfl)) (dx_lenT b.len rfl (dx_fld (C := C) (gs := spaceL fs) (dx_var 0 rfl) Vw.rfl' sc.cl sc.names rfl))) ?_)))) (fun _ => ?_) (fun e => nomatch e)
      · rw [lenP, lenF]; simp; omega
      · have : boxOkB fs ps = false := by
          cases e : boxOkB fs ps with
          | false => rfl
          | true => exact absurd (boxOkB_len e) hl
        rw [this] at hQ
        exact qs_ret dx_bl ⟨_, _, Fz.refl, hQ⟩
  · rcases hd with rfl | ⟨i, rfl⟩
    · refine qs_if (k := true) (DW.dt (dw_orT (DT.cast (dt_not (dt_of (dx_isi (m := "tuple") b.isinstance rfl (dx_var 1 rfl) (dx_ty (n := "tuple") rfl b.tuple (by decide +kernel)) rfl (kit_non_tup _)))) rfl))) (fun _ => ?_) (fun e => nomatch e)
      exact qs_ret dx_bl ⟨_, _, Fz.refl, hQ⟩
    · refine qs_if (k := true) (DW.dt (dw_orT (DT.cast (dt_not (dt_of (dx_isi (m := "tuple") b.isinstance rfl (dx_var 1 rfl) (dx_ty (n := "tuple") rfl b.tuple (by decide +kernel)) rfl (kit_int_tup _)))) rfl))) (fun _ => ?_) (fun e => nomatch e)
      exact qs_ret dx_bl ⟨_, _, Fz.refl, hQ⟩
end
end SB
set_option Elab.async false
set_option linter.all false
set_option maxRecDepth 100000
set_option maxHeartbeats 1000000
namespace SB
open PySem PySem.Spec PyProof.Rows L2 DL
/-! ### the masks of a handed box -/
def partM (us p : List Str) : Int := (p.map (maskI us)).sum
def boxM : List (List Str) → List (List Str) → List Int
  | us :: fs, p :: ps => partM us p :: boxM fs ps
  | _, _ => []
theorem boxM_len : ∀ {fs ps : List (List Str)}, ps.length = fs.length → (boxM fs ps).length = fs.length
  | [], [], _ => rfl
  | [], _ :: _, h => by simp at h
  | _ :: _, [], h => by simp at h
  | us :: fs, p :: ps, h => by rw [boxM, List.length_cons, boxM_len (by simpa using h), List.length_cons]
theorem boxM_get : ∀ {fs ps : List (List Str)} {i : Nat} {us p : List Str}, fs[i]? = some us → ps[i]? = some p → (boxM fs ps)[i]? = some (partM us p)
  | [], _, _, _, _, h, _ => by simp at h
  | _ :: _, [], _, _, _, _, h => by simp at h
  | us :: fs, p :: ps, 0, _, _, h, h2 => by simp at h h2; subst h; subst h2; rfl
  | us :: fs, p :: ps, i + 1, _, _, h, h2 => by
    rw [boxM]
    simpa using boxM_get (by simpa using h) (by simpa using h2)
theorem preSum_take {α : Type} (f : α → Int) (p : List α) (d : α) : ∀ n, n ≤ p.length → preSum (fun i => f (p.getD i d)) n = ((p.take n).map f).sum
  | 0, _ => rfl
  | n + 1, h => by
    have hn : n < p.length := by omega
    have tk : p.take (n + 1) = p.take n ++ [p[n]] := by rw [List.take_succ, List.getElem?_eq_getElem hn]; rfl
    rw [preSum, preSum_take f p d n (by omega), tk, List.map_append, List.sum_append, List.getD_eq_getElem?_getD, List.getElem?_eq_getElem hn]
    simp
theorem preSum_bd {val : Nat → Int} : ∀ n, (∀ i, i < n → 0 ≤ val i ∧ val i ≤ 64) → 0 ≤ preSum val n ∧ preSum val n ≤ 64 * n
  | 0, _ => ⟨Int.le_refl _, Int.le_refl _⟩
  | n + 1, h => by
    have := preSum_bd n fun i hi => h i (by omega)
    have := h n (by omega)
    rw [preSum]
    omega
section
variable {P : Program} {w : World} {K : PySem.W.Frag} {mg : Str → Option Value} {base : Heap} {T : List Addr}
abbrev s_box_masks : Stmt := top 40
theorem sc_box_masks : FnScope ["space", "box", "masks", "part", "names", "name"] ["space", "box"] (defScope s_box_masks) := ⟨rfl, rfl, rfl, by decide +kernel, rfl, by decide +kernel, by decide +kernel⟩
-- space=0 box=1 masks=2 part=3 names=4 name=5
def F_boxMasks (C : Addr) : FT := fun ds S P _ => ∃ (fs ps : List (List Str)), ds = [spaceD C fs, .tup (ps.map fieldD)] ∧ fs.length ≤ 6 ∧ (∀ us ∈ fs, us.length ≤ 6) ∧ boxOkB fs ps = true ∧ P (.tup ((boxM fs ps).map D.int)) S
theorem fd_boxMasks {f c p C : Addr} {fd : FuncData} (F : FunC K "box_masks" "box_masks" s_box_masks f fd c) (b : BI mg) (hsum : mg "sum" = none) (sc : SpC K C) (tb : TabOk base mg T c p) (hb : Binds K fd ["space", "box"] []) : FD P w K mg base T CX0 2 f fd ["space", "box"] (F_boxMasks C) := by
  refine fd_g F sc_box_masks hb (fun ds S P PX h => by obtain ⟨_, _, rfl, _⟩ := h; rfl) (fun A outer st H E B ds S Q PX hr hF => ?_)
  obtain ⟨fs, ps, rfl, f6, hf6, ok, hQ⟩ := hF
  have hl := boxOkB_len ok
  have lenP : (ps.map fieldD).length = ps.length := List.length_map _
  have lenF : (fs.map rowF).length = fs.length := List.length_map _
  have lenZ : (zipD (ps.map fieldD) (fs.map rowF)).length = fs.length := by rw [zipD_length, lenP, lenF, hl]; omega
  have lM := boxM_len hl
  refine qs_asgN 2 sc_box_masks.nd (dn_lst da_nil (Nat.le_of_ble_eq_true rfl)) fun lm => ?_
  refine qs_for (V := fun _ => True) (xs := zipD (ps.map fieldD) (fs.map rowF)) (fun i ρ S' => ∃ v3 v4, S' = S ++ [(lm, .lst (((boxM fs ps).take i).map D.int))] ∧ ρ = [some (spaceD C fs), some (.tup (ps.map fieldD)), some (.ref lm), v3, v4, none]) PassesOwn.never rfl (di_zip b.zip rfl (dx_var 1 rfl) (dx_fld (C := C) (gs := spaceL fs) (dx_var 0 rfl) Vw.rfl' sc.cl sc.names rfl)) ⟨_, _, rfl, rfl⟩ ?_ ?_
  · rintro B' hB i x ρ' S' hx ⟨v3, v4, rfl, rfl⟩
    obtain ⟨x1, x2, h1, h2, rfl⟩ := zipD_of hx
    rw [List.getElem?_map] at h1 h2
    obtain ⟨pt, hp, rfl⟩ := Option.map_eq_some_iff.mp h1
    obtain ⟨us, hus, rfl⟩ := Option.map_eq_some_iff.mp h2
    have u6 := hf6 us (List.mem_of_getElem? hus)
    obtain ⟨pn, pe⟩ := boxOkB_get ok hus hp
    have sub : ∀ t ∈ pt, t ∈ us := fun t ht => by
      rw [pe] at ht
      exact srt_mem.mp (List.mem_filter.mp ht).1
    have p6 : pt.length ≤ 6 := by
      have := List.length_filter_le (fun t => decide (t ∈ pt)) (srt us)
      rw [← pe, srt_length] at this
      omega
    have lenp : (pt.map D.str).length = pt.length := List.length_map _
    have mk : (boxM fs ps)[i]? = some (partM us pt) := boxM_get hus hp
    have tk : (boxM fs ps).take (i + 1) = (boxM fs ps).take i ++ [partM us pt] := by rw [List.take_succ, mk]; rfl
    have val : ∀ j, j < pt.length → 0 ≤ maskI us (pt.getD j ⟨#[]⟩) ∧ maskI us (pt.getD j ⟨#[]⟩) ≤ 64 := fun j hj => by
      rw [List.getD_eq_getElem?_getD, List.getElem?_eq_getElem hj]
      have := maskI_in (sub _ (List.getElem_mem hj)) u6
      exact ⟨this.1, by have := this.2; show maskI us pt[j] ≤ 64; omega⟩
    have res : preSum (fun j => maskI us (pt.getD j ⟨#[]⟩)) (pt.map D.str).length = partM us pt := by rw [lenp, preSum_take _ _ _ _ (Nat.le_refl _), List.take_length]; rfl
    refine ⟨_, _, dg_pair 3 4 sc_box_masks.nd rfl, ?_⟩
    refine qs_ap (n := S.length) (d := .int (partM us pt)) (xs := ((boxM fs ps).take i).map D.int) (dx_var 2 rfl) (DX.cast (dx_sum (k := 0) (xs := pt.map D.str) (V := fun _ => True) (own := [("name", 5)]) (val := fun j => maskI us (pt.getD j ⟨#[]⟩)) hsum rfl hr tb.tb rfl tb.mem rfl sc_box_masks.nd (blkOk_by (own := [("name", 5)]) (N := ["space", "box", "masks", "part", "names", "name"]) (sc := defScope s_box_masks) (by decide +kernel)) (di_tup (dx_var 3 rfl)) ⟨fun j x hx => ?_, trivial⟩ (fun j hj => ?_)) (by rw [res]) rfl) ⟨_, mem_last⟩ at_last (by rw [List.length_map, List.length_take]; omega) (qs_nil ⟨_, _, ?_, rfl⟩)
    · rw [List.getElem?_map] at hx
      obtain ⟨t, ht, rfl⟩ := Option.map_eq_some_iff.mp hx
      have g1 : pt.getD j ⟨#[]⟩ = t := by rw [List.getD_eq_getElem?_getD, ht]; rfl
      have tm : t ∈ srt us := srt_mem.mpr (sub t (List.mem_of_getElem? ht))
      obtain ⟨i1, i2⟩ := idx_first tm
      have il := List.idxOf_lt_length_of_mem tm
      rw [srt_length] at il
      simp only [g1]
      refine ⟨_, _, ?_, fun s H code fp pn => dg_name 5 sc_box_masks.nd, fun s H code fp pn B' hB' => dx_shl dx_int (dx_tindex (dx_var 4 rfl) (dx_var 5 rfl) i1 i2) ⟨by omega, by omega, by decide⟩⟩
      intro j hj; simpa using hj
    · rw [lenp] at hj
      have a := val j hj
      have c := preSum_bd (val := fun j => maskI us (pt.getD j ⟨#[]⟩)) (j + 1) fun k hk => val k (by omega)
      refine ⟨⟨by omega, by omega⟩, ⟨by omega, by omega⟩⟩
    · rw [set_last, tk, List.map_append]; rfl
  · rintro ρ' S' ⟨v3, v4, rfl, rfl⟩
    have e : (boxM fs ps).take (zipD (ps.map fieldD) (fs.map rowF)).length = boxM fs ps := by rw [lenZ, ← lM, List.take_length]
    rw [e]
    exact qs_ret (dx_tuple b.tuple rfl (dx_var 2 rfl) (.inl (Vw.own mem_last))) ⟨_, _, Fz.tail _, hQ⟩
end
end SB
set_option Elab.async false
set_option linter.all false
set_option maxRecDepth 100000
set_option maxHeartbeats 1000000
namespace SB
open PySem PySem.Spec PyProof.Rows L2 DL
/-! ### told things, few -/
theorem pow_idx {us : List Str} {t : Str} (h : t ∈ us) : 0 ≤ maskI us t ∧ maskI us t < 2 ^ us.length := by
  have il := List.idxOf_lt_length_of_mem (srt_mem.mpr h)
  rw [srt_length] at il
  unfold maskI
  rw [Int.one_mul, Int.toNat_natCast]
  have a : ((2 ^ List.idxOf t (srt us) : Nat) : Int) = (2 : Int) ^ List.idxOf t (srt us) := by simp
  have c : ((2 ^ us.length : Nat) : Int) = (2 : Int) ^ us.length := by simp
  have := Nat.pow_lt_pow_right (a := 2) (by decide) il
  rw [← a, ← c]
  exact ⟨Int.natCast_nonneg _, Int.ofNat_lt.mpr this⟩
theorem masksOf_ok : ∀ {fs : List (List Str)} {ts : List Str}, ThingOk fs ts → MaskOk fs (masksOf fs ts) := fun {fs ts} ok =>
  ⟨masksOf_len ok.len, fun i us m hu hm => by
    have hi : i < ts.length := by rw [ok.len]; exact (List.getElem?_eq_some_iff.mp hu).1
    have e := List.getElem?_eq_getElem hi
    rw [masksOf_get hu e] at hm
    cases hm
    exact pow_idx (ok.mem i us _ hu e)⟩
theorem TellOk.ok {fs : List (List Str)} {rs : List (List Str × Int)} {bit : Int} {ks : List (List Int)} (h : TellOk fs rs bit ks) (hr : ∀ r ∈ rs, RowOk fs r) : ∀ k ∈ ks, MaskOk fs k := fun k hk => by
  obtain ⟨r, hr', _, rfl⟩ := (h.mem k).mp hk
  exact masksOf_ok (hr r hr').th
theorem nd_len {α : Type} [DecidableEq α] : ∀ {xs ys : List α}, xs.Nodup → (∀ x ∈ xs, x ∈ ys) → xs.length ≤ ys.length
  | [], _, _, _ => Nat.zero_le _
  | x :: xs, ys, nd, h => by
    have hx := h x List.mem_cons_self
    have n := List.nodup_cons.mp nd
    have := nd_len (xs := xs) (ys := ys.erase x) n.2 fun y hy => (List.mem_erase_of_ne (fun z => n.1 (by rw [← z]; exact hy))).mpr (h y (List.mem_cons_of_mem _ hy))
    rw [List.length_erase_of_mem hx] at this
    have := List.length_pos_of_mem hx
    rw [List.length_cons]
    omega
/-- unlike things, fewer than rows -/
theorem TellOk.few {fs : List (List Str)} {rs : List (List Str × Int)} {bit : Int} {ks : List (List Int)} (h : TellOk fs rs bit ks) : ks.length ≤ rs.length := by
  have sub : ∀ k ∈ ks, k ∈ rs.map fun r => masksOf fs r.1 := fun k hk => by
    obtain ⟨r, hr, _, e⟩ := (h.mem k).mp hk
    exact List.mem_map.mpr ⟨r, hr, e⟩
  have := nd_len h.nd sub
  rwa [List.length_map] at this
/-! ### least boxes, judged boxes -/
def leastD (fs : List (List Str)) (os zs : List (List Int)) : D := if os = [] ∨ cleanI (boxOf os (zeroI fs)) zs = false then .non else .tup ((boxN fs (boxOf os (zeroI fs))).map fieldD)
def judgeB (fs ps : List (List Str)) (os zs : List (List Int)) : Bool := boxOkB fs ps && ((os.all fun o => hasI (boxM fs ps) o) && cleanI (boxM fs ps) zs)
section
variable {P : Program} {w : World} {K : PySem.W.Frag} {mg : Str → Option Value} {base : Heap} {T : List Addr}
abbrev s_least_box : Stmt := top 42
theorem sc_least_box : FnScope ["fields", "told", "space", "ones", "zeros", "box"] ["fields", "told"] (defScope s_least_box) := ⟨rfl, rfl, rfl, by decide +kernel, rfl, by decide +kernel, by decide +kernel⟩
-- fields=0 told=1 space=2 ones=3 zeros=4 box=5
def F_least : FT := fun ds S P _ => ∃ (d e : D) (fs : List (List Str)) (rs : List (List Str × Int)), ds = [d, e] ∧ SqD d (fs.map fieldD) ∧ 1 ≤ fs.length ∧ fs.length ≤ 6 ∧ (∀ us ∈ fs, FieldOk 6 us) ∧ SqD e (rs.map rowD) ∧ rs.length ≤ 12 ∧ (∀ r ∈ rs, RowOk fs r) ∧
  ∀ os zs, TellOk fs rs 1 os → TellOk fs rs 0 zs → P (leastD fs os zs) S
theorem fd_least {f C : Addr} {fd : FuncData} (F : Fun K "least_box" "least_box" s_least_box f fd) (sc : SpC K C) (hcf : FN P w K mg base T CX0 7 "check_fields" ["fields"] (F_checkF C)) (hct : FN P w K mg base T CX0 3 "check_told" ["space", "told"] (F_checkTold C)) (hno : FM P w K mg base T CX0 1 C "nothing" ["self"] (F_nothing C)) (hbo : FN P w K mg base T CX0 2 "box_of" ["things", "start"] F_boxOf) (hcl : FN P w K mg base T CX0 4 "is_clean" ["box", "zeros"] F_clean) (hbn : FM P w K mg base T CX0 2 C "box_names" ["self", "box"] (F_boxNames C)) (hb : Binds K fd ["fields", "told"] []) : FD P w K mg base T CX0 8 f fd ["fields", "told"] F_least := by
  refine fd_d F sc_least_box hb (fun ds S P PX h => by obtain ⟨_, _, _, _, rfl, _⟩ := h; rfl) (fun cdv A outer st H E B ds S Q PX hr hF => ?_)
  obtain ⟨d, e, fs, rs, rfl, hd, f1, f6, hf, he, h12, hrs, hQ⟩ := hF
  have hf6 : ∀ us ∈ fs, us.length ≤ 6 := fun us hu => (hf us hu).nm.six
  refine qs_asg 2 (d := spaceD C fs) (S' := S) sc_least_box.nd (de_call hcf (hr.mono (by omega)) rfl pass0 (da_cons (dx_var 0 rfl) da_nil) ⟨d, fs, rfl, hd, f1, f6, hf, rfl, rfl⟩) ?_
  refine qs_asg2E 3 4 (Q := fun d S' => ∃ os zs, TellOk fs rs 1 os ∧ TellOk fs rs 0 zs ∧ d = .tup [.lst (os.map mD), .lst (zs.map mD)] ∧ S' = S) sc_least_box.nd rfl (de_call hct (hr.mono (by omega)) rfl pass0 (da_cons (dx_var 2 rfl) (da_cons (dx_var 1 rfl) da_nil)) ⟨e, fs, rs, rfl, he, h12, hrs, f1, f6, hf6, fun os zs h1 h2 => ⟨os, zs, h1, h2, rfl, rfl⟩⟩) ?_
  rintro d2 S2 ⟨os, zs, h1, h2, rfl, rfl⟩
  refine ⟨_, _, rfl, ?_⟩
  have hQ := hQ os zs h1 h2
  have ho := h1.ok hrs
  have hz := h2.ok hrs
  have ok0 := boxOf_ok ho (zeroI_ok fs)
  refine qs_asg 5 (d := mP (boxOf os (zeroI fs))) (S' := S2) sc_least_box.nd (de_call hbo (hr.mono (by omega)) rfl pass0 (da_cons (dx_var 3 rfl) (da_cons (de_meth0 (P := fun d S' => d = mP (zeroI fs) ∧ S' = S2) hno (hr.mono (by omega)) sc.cl pass0 (dx_var 2 rfl) Vw.rfl' rfl ⟨fs, rfl, f6, by unfold mP zeroI; rw [List.map_map]; rfl, rfl⟩) da_nil)) ⟨os, zeroI fs, fs.length, rfl, fun k hk => (ho k hk).len, by simp [zeroI], by omega, rfl, rfl⟩) ?_
  have lb := ok0.len
  unfold leastD at hQ
  generalize boxOf os (zeroI fs) = m at *
  by_cases h0 : os = []
  · rw [if_pos (.inl h0)] at hQ
    refine qs_if (k := true) (DW.dt (dw_orT (DT.cast (dt_not (dt_truL (dx_var 3 rfl) Vw.rfl')) (by rw [h0]; rfl)))) (fun _ => ?_) (fun e => nomatch e)
    exact qs_ret dx_non ⟨_, _, Fz.refl, hQ⟩
  · refine qs_if (k := !cleanI m zs) (DW.dt (dw_orF (DT.cast (dt_not (dt_truL (dx_var 3 rfl) Vw.rfl')) (by cases os with
      | nil => exact absurd rfl h0
      | cons => rfl)) (dw_or1 (dt_not (dt_of (de_call hcl (hr.mono (by omega)) rfl pass0 (da_cons (dx_var 5 rfl) (da_cons (dx_var 4 rfl) da_nil)) ⟨_, m, zs, rfl, .inr rfl, fun z hzz => by rw [lb, (hz z hzz).len], by omega, rfl, rfl⟩)))))) (fun e => ?_) (fun e => qs_nil ?_)
    · rw [if_pos (.inr (by simpa using e))] at hQ
      exact qs_ret dx_non ⟨_, _, Fz.refl, hQ⟩
    · rw [if_neg (fun z => z.elim h0 fun z => by rw [z] at e; cases e)] at hQ
      exact qs_ret (d := .tup ((boxN fs m).map fieldD)) (S' := S2) (de_meth hbn (hr.mono (by omega)) sc.cl pass0 (dx_var 2 rfl) Vw.rfl' rfl (da_cons (dx_var 5 rfl) da_nil) ⟨fs, _, m, rfl, .inr rfl, ok0, f6, hf6, rfl, rfl⟩) ⟨_, _, Fz.refl, hQ⟩
abbrev s_judge_box : Stmt := top 43
theorem sc_judge_box : FnScope ["fields", "told", "box", "space", "ones", "zeros", "masks", "one"] ["fields", "told", "box"] (defScope s_judge_box) := ⟨rfl, rfl, rfl, by decide +kernel, rfl, by decide +kernel, by decide +kernel⟩
-- fields=0 told=1 box=2 space=3 ones=4 zeros=5 masks=6 one=7
def F_judge : FT := fun ds S P _ => ∃ (d e v : D) (fs : List (List Str)) (rs : List (List Str × Int)), ds = [d, e, v] ∧ SqD d (fs.map fieldD) ∧ 1 ≤ fs.length ∧ fs.length ≤ 6 ∧ (∀ us ∈ fs, FieldOk 6 us) ∧ SqD e (rs.map rowD) ∧ rs.length ≤ 12 ∧ (∀ r ∈ rs, RowOk fs r) ∧
  ((∃ ps : List (List Str), v = .tup (ps.map fieldD) ∧ (∀ p ∈ ps, ∀ t ∈ p, PyData.strOk t = true) ∧ ∀ os zs, TellOk fs rs 1 os → TellOk fs rs 0 zs → P (.bl (judgeB fs ps os zs)) S) ∨ ((v = .non ∨ ∃ i, v = .int i) ∧ P (.bl false) S))
theorem fd_judge {f c p C : Addr} {fd : FuncData} (F : FunC K "judge_box" "judge_box" s_judge_box f fd c) (b : BI mg) (tb : TabOk base mg T c p) (hcf : FN P w K mg base T CX0 7 "check_fields" ["fields"] (F_checkF C)) (hct : FN P w K mg base T CX0 3 "check_told" ["space", "told"] (F_checkTold C)) (hib : FN P w K mg base T CX0 1 "is_box" ["space", "value"] (F_isBox C)) (hbm : FN P w K mg base T CX0 2 "box_masks" ["space", "box"] (F_boxMasks C)) (hbh : FN P w K mg base T CX0 2 "box_has" ["box", "thing"] F_boxHas) (hcl : FN P w K mg base T CX0 4 "is_clean" ["box", "zeros"] F_clean) (hb : Binds K fd ["fields", "told", "box"] []) : FD P w K mg base T CX0 8 f fd ["fields", "told", "box"] F_judge := by
  refine fd_g F sc_judge_box hb (fun ds S P PX h => by obtain ⟨_, _, _, _, _, rfl, _⟩ := h; rfl) (fun A outer st H E B ds S Q PX hr hF => ?_)
  obtain ⟨d, e, v, fs, rs, rfl, hd, f1, f6, hf, he, h12, hrs, hv⟩ := hF
  have hf6 : ∀ us ∈ fs, us.length ≤ 6 := fun us hu => (hf us hu).nm.six
  have hfg : ∀ us ∈ fs, us.length ≤ 6 ∧ ∀ t ∈ us, Great t := fun us hu => ⟨hf6 us hu, (hf us hu).nm.gr⟩
  refine qs_asg 3 (d := spaceD C fs) (S' := S) sc_judge_box.nd (de_call hcf (hr.mono (by omega)) rfl pass0 (da_cons (dx_var 0 rfl) da_nil) ⟨d, fs, rfl, hd, f1, f6, hf, rfl, rfl⟩) ?_
  refine qs_asg2E 4 5 (Q := fun d S' => ∃ os zs, TellOk fs rs 1 os ∧ TellOk fs rs 0 zs ∧ d = .tup [.lst (os.map mD), .lst (zs.map mD)] ∧ S' = S) sc_judge_box.nd rfl (de_call hct (hr.mono (by omega)) rfl pass0 (da_cons (dx_var 3 rfl) (da_cons (dx_var 1 rfl) da_nil)) ⟨e, fs, rs, rfl, he, h12, hrs, f1, f6, hf6, fun os zs h1 h2 => ⟨os, zs, h1, h2, rfl, rfl⟩⟩) ?_
  rintro d2 S2 ⟨os, zs, h1, h2, rfl, rfl⟩
  refine ⟨_, _, rfl, ?_⟩
  have ho := h1.ok hrs
  have hz := h2.ok hrs
  rcases hv with ⟨ps, rfl, hs, hQ⟩ | ⟨hv, hQ⟩
  · have hQ := hQ os zs h1 h2
    unfold judgeB at hQ
    refine qs_if (k := !boxOkB fs ps) (dt_not (dt_of (de_call hib (hr.mono (by omega)) rfl pass0 (da_cons (dx_var 3 rfl) (da_cons (dx_var 2 rfl) da_nil)) ⟨fs, _, rfl, hfg, .inl ⟨ps, rfl, hs, rfl, rfl⟩⟩))) (fun e => ?_) (fun e => qs_nil ?_)
    · have : boxOkB fs ps = false := by simpa using e
      rw [this] at hQ
      exact qs_ret dx_bl ⟨_, _, Fz.refl, hQ⟩
    · have ok : boxOkB fs ps = true := by simpa using e
      rw [ok, Bool.true_and] at hQ
      refine qs_asg 6 (d := .tup ((boxM fs ps).map D.int)) (S' := S2) sc_judge_box.nd (de_call hbm (hr.mono (by omega)) rfl pass0 (da_cons (dx_var 3 rfl) (da_cons (dx_var 2 rfl) da_nil)) ⟨fs, ps, rfl, f6, hf6, ok, rfl, rfl⟩) ?_
      have lm := boxM_len (boxOkB_len ok)
      generalize boxM fs ps = m at *
      have lenO : (os.map mD).length = os.length := List.length_map _
      refine qs_ret (d := .bl ((os.all fun o => hasI m o) && cleanI m zs)) (S' := S2) (DX.cast (dx_and (S1 := S2) (dx_all (k := 6) (xs := os.map mD) (V := fun _ => True) (own := [("one", 7)]) (val := fun i => .bl (hasI m (os.getD i []))) b.all rfl hr tb.tb rfl tb.mem rfl sc_judge_box.nd (blkOk_by (own := [("one", 7)]) (N := ["fields", "told", "box", "space", "ones", "zeros", "masks", "one"]) (sc := defScope s_judge_box) (by decide +kernel)) (di_lst (dx_var 4 rfl)) ⟨fun i x hx => ?_, trivial⟩ (fun i _ => .inl ⟨_, rfl⟩)) (fun _ => dx_one (de_call (P := fun d S' => d = .bl (cleanI m zs) ∧ S' = S2) hcl (hr.mono (by omega)) rfl pass0 (da_cons (dx_var 6 rfl) (da_cons (dx_var 5 rfl) da_nil)) ⟨_, m, zs, rfl, .inl rfl, fun z hzz => by rw [lm, (hz z hzz).len], by omega, rfl, rfl⟩)) (fun _ => rfl)) ?_ rfl) ⟨_, _, Fz.refl, hQ⟩
      · rw [List.getElem?_map] at hx
        obtain ⟨o, hoo, rfl⟩ := Option.map_eq_some_iff.mp hx
        have g1 : os.getD i [] = o := by simp [List.getD, hoo]
        simp only [g1]
        refine ⟨_, _, ?_, fun s H code fp pn => dg_name 7 sc_judge_box.nd, fun s H code fp pn B' hB' => de_call hbh ((GX.gA_room hr).mono (by omega)) rfl pass0 (da_cons (dx_var 6 rfl) (da_cons (dx_var 7 rfl) da_nil)) ⟨_, _, m, o, rfl, .inl rfl, .inl rfl, by rw [lm, (ho o (List.mem_of_getElem? hoo)).len], by omega, rfl, rfl⟩⟩
        intro j hj; simpa using hj
      · have e : ((List.range (os.map mD).length).all fun i => trD (D.bl (hasI m (os.getD i [])))) = os.all fun o => hasI m o := by
          rw [lenO]
          have en : os = (List.range os.length).map fun i => os.getD i [] := by
            apply List.ext_getElem
            · simp
            · intro i h1 h2
              simp [List.getElem?_eq_getElem h1]
          conv => rhs; rw [en]
          rw [List.all_map]
          rfl
        rw [e]
  · refine qs_if (k := true) (DT.cast (dt_not (k := false) (dt_of (de_call hib (hr.mono (by omega)) rfl pass0 (da_cons (dx_var 3 rfl) (da_cons (dx_var 2 rfl) da_nil)) ⟨fs, _, rfl, hfg, .inr ⟨hv, rfl, rfl⟩⟩))) rfl) (fun _ => ?_) (fun e => nomatch e)
    exact qs_ret dx_bl ⟨_, _, Fz.refl, hQ⟩
end
end SB
set_option Elab.async false
set_option linter.all false
set_option maxRecDepth 100000
set_option maxHeartbeats 1000000
namespace SB
open PySem PySem.Spec PyProof.Rows L2 DL
section
/-! ### the plain law: boxes as Names and as masks -/
theorem srt_at {us : List Str} {t : Str} (h : t ∈ us) : (srt us)[(srt us).idxOf t]? = some t := (idx_first (srt_mem.mpr h)).1
theorem idx_inj {us : List Str} {t u : Str} (ht : t ∈ us) (hu : u ∈ us) (e : (srt us).idxOf t = (srt us).idxOf u) : t = u := by
  have a := srt_at ht
  rw [e, srt_at hu] at a
  exact (Option.some.inj a).symm
theorem list_range {α : Type} (us : List α) (d : α) : us = (List.range us.length).map fun k => us.getD k d := by
  apply List.ext_getElem
  · simp
  · intro i h1 h2
    simp [List.getElem?_eq_getElem h1]
theorem idx_getD {us : List Str} (nd : us.Nodup) {j : Nat} (hj : j < us.length) : us.idxOf (us.getD j ⟨#[]⟩) = j := by
  have e : us.getD j ⟨#[]⟩ = us[j] := by rw [List.getD_eq_getElem?_getD, List.getElem?_eq_getElem hj]; rfl
  rw [e]
  have hm := List.getElem_mem hj
  have il := List.idxOf_lt_length_of_mem hm
  obtain ⟨i1, _⟩ := idx_first hm
  rw [List.getElem?_eq_getElem il] at i1
  exact (List.getElem_inj nd).mp (Option.some.inj i1)
theorem part_filter {us : List Str} (nd : us.Nodup) (x : Nat) : partOf us x = us.filter fun t => x.testBit (us.idxOf t) := by
  conv => rhs; rw [list_range us ⟨#[]⟩]
  rw [List.filter_map]
  unfold partOf
  congr 1
  refine List.filter_congr fun k hk => ?_
  show x.testBit k = x.testBit (((List.range us.length).map fun k => us.getD k ⟨#[]⟩).idxOf (us.getD k ⟨#[]⟩))
  rw [← list_range us ⟨#[]⟩, idx_getD nd (List.mem_range.mp hk)]
theorem names_filter {us : List Str} (nd : us.Nodup) (m : Int) : namesOf us m = (srt us).filter fun t => m.toNat.testBit ((srt us).idxOf t) := part_filter (srt_nodup nd) _
theorem names_mem {us : List Str} (nd : us.Nodup) {m : Int} {t : Str} : t ∈ namesOf us m ↔ t ∈ us ∧ m.toNat.testBit ((srt us).idxOf t) = true := by
  rw [names_filter nd, List.mem_filter, srt_mem]
theorem maskI_nat (us : List Str) (t : Str) : maskI us t = ((2 ^ (srt us).idxOf t : Nat) : Int) := by
  unfold maskI
  rw [Int.one_mul, Int.toNat_natCast]
  simp
theorem bit_add {x k : Nat} (h : x.testBit k = false) (j : Nat) : (2 ^ k + x).testBit j = (decide (k = j) || x.testBit j) := by
  rcases Nat.lt_trichotomy j k with c | c | c
  · rw [Nat.testBit_two_pow_add_gt c, decide_eq_false (by omega), Bool.false_or]
  · subst c
    rw [Nat.testBit_two_pow_add_eq, h]
    simp
  · rw [decide_eq_false (by omega), Bool.false_or]
    have hb : x % 2 ^ (k + 1) < 2 ^ k := by
      refine Nat.lt_pow_two_of_testBit _ fun i hi => ?_
      rw [Nat.testBit_mod_two_pow]
      by_cases e : i = k
      · rw [e, h, Bool.and_false]
      · rw [decide_eq_false (by omega), Bool.false_and]
    have e1 : x = 2 ^ (k + 1) * (x / 2 ^ (k + 1)) + x % 2 ^ (k + 1) := (Nat.div_add_mod _ _).symm
    have p2 : 2 ^ (k + 1) = 2 * 2 ^ k := by rw [Nat.pow_succ, Nat.mul_comm]
    have e2 : 2 ^ k + x = 2 ^ (k + 1) * (x / 2 ^ (k + 1)) + (2 ^ k + x % 2 ^ (k + 1)) := by
      generalize x % 2 ^ (k + 1) = b at *
      generalize 2 ^ (k + 1) * (x / 2 ^ (k + 1)) = a at *
      omega
    rw [e2, Nat.testBit_two_pow_mul_add _ (by omega), if_neg (by omega)]
    conv => rhs; rw [e1, Nat.testBit_two_pow_mul_add _ (by omega), if_neg (by omega)]
theorem partM_bits {us : List Str} : ∀ {p : List Str}, p.Nodup → (∀ t ∈ p, t ∈ us) → ∃ x : Nat, partM us p = (x : Int) ∧ ∀ t ∈ us, x.testBit ((srt us).idxOf t) = decide (t ∈ p)
  | [], _, _ => ⟨0, rfl, fun t _ => by simp⟩
  | u :: p, nd, sub => by
    have n := List.nodup_cons.mp nd
    have hu := sub u List.mem_cons_self
    obtain ⟨x, e, hx⟩ := partM_bits n.2 fun t ht => sub t (List.mem_cons_of_mem _ ht)
    refine ⟨2 ^ (srt us).idxOf u + x, ?_, fun t ht => ?_⟩
    · unfold partM at e ⊢
      rw [List.map_cons, List.sum_cons, e, maskI_nat]
      rfl
    · have h0 : x.testBit ((srt us).idxOf u) = false := by rw [hx u hu]; exact decide_eq_false n.1
      rw [bit_add h0, hx t ht]
      by_cases c : t = u
      · subst c; simp
      · have : ¬ (srt us).idxOf u = (srt us).idxOf t := fun z => c (idx_inj hu ht z).symm
        simp [this, c]
theorem partM_lt {us p : List Str} (nu : us.Nodup) (nd : p.Nodup) (sub : ∀ t ∈ p, t ∈ us) : 0 ≤ partM us p ∧ partM us p < 2 ^ us.length := by
  have hl : ∀ (p : List Str), (∀ t ∈ p, t ∈ us) → ∀ x : Nat, partM us p = (x : Int) → ∀ j, us.length ≤ j → p.Nodup → x.testBit j = false := by
    intro p
    induction p with
    | nil => intro _ x e j _ _; have : x = 0 := by have e : (0 : Int) = x := e; omega
             subst this; simp
    | cons u p ih =>
      intro sub x e j hj nd
      have n := List.nodup_cons.mp nd
      have hu := sub u List.mem_cons_self
      obtain ⟨y, ey, hy⟩ := partM_bits n.2 fun t ht => sub t (List.mem_cons_of_mem _ ht)
      have h0 : y.testBit ((srt us).idxOf u) = false := by rw [hy u hu]; exact decide_eq_false n.1
      have il := List.idxOf_lt_length_of_mem (srt_mem.mpr hu)
      rw [srt_length] at il
      have ex : x = 2 ^ (srt us).idxOf u + y := by
        unfold partM at e ey
        rw [List.map_cons, List.sum_cons, ey, maskI_nat] at e
        have : ((2 ^ (srt us).idxOf u + y : Nat) : Int) = x := e
        exact (Int.ofNat.inj this).symm
      rw [ex, bit_add h0, decide_eq_false (by omega), Bool.false_or]
      exact ih (fun t ht => sub t (List.mem_cons_of_mem _ ht)) y ey j hj n.2
  obtain ⟨x, e, _⟩ := partM_bits nd sub
  have := Nat.lt_pow_two_of_testBit x fun i hi => hl p sub x e i hi nd
  rw [e]
  refine ⟨Int.natCast_nonneg _, ?_⟩
  have c : ((2 ^ us.length : Nat) : Int) = (2 : Int) ^ us.length := by simp
  rw [← c]
  exact Int.ofNat_lt.mpr this
theorem names_partM {us p : List Str} (nu : us.Nodup) (h : p = (srt us).filter fun t => decide (t ∈ p)) : namesOf us (partM us p) = p := by
  have nd : p.Nodup := by rw [h]; exact (srt_nodup nu).filter _
  have sub : ∀ t ∈ p, t ∈ us := fun t ht => by rw [h] at ht; exact srt_mem.mp (List.mem_filter.mp ht).1
  obtain ⟨x, e, hx⟩ := partM_bits nd sub
  rw [names_filter nu, e]
  conv => rhs; rw [h]
  refine List.filter_congr fun t ht => ?_
  rw [Int.toNat_natCast, hx t (srt_mem.mp ht)]
theorem box_partM : ∀ {fs ps : List (List Str)}, (∀ us ∈ fs, us.Nodup) → boxOkB fs ps = true → boxN fs (boxM fs ps) = ps ∧ MaskOk fs (boxM fs ps) := fun {fs ps} hf ok => by
  have hl := boxOkB_len ok
  have lm := boxM_len hl
  have pt : ∀ (i : Nat) us p, fs[i]? = some us → ps[i]? = some p → p.Nodup ∧ (∀ t ∈ p, t ∈ us) ∧ p = (srt us).filter fun t => decide (t ∈ p) := fun i us p h1 h2 => by
    obtain ⟨_, e⟩ := boxOkB_get ok h1 h2
    refine ⟨by rw [e]; exact (srt_nodup (hf us (List.mem_of_getElem? h1))).filter _, fun t ht => ?_, e⟩
    rw [e] at ht
    exact srt_mem.mp (List.mem_filter.mp ht).1
  constructor
  · apply List.ext_getElem?
    intro i
    by_cases hi : i < fs.length
    · have h1 := List.getElem?_eq_getElem hi
      have h2 := List.getElem?_eq_getElem (l := ps) (i := i) (by omega)
      rw [boxN_get h1 (boxM_get h1 h2), h2, names_partM (hf _ (List.getElem_mem hi)) (pt i _ _ h1 h2).2.2]
    · rw [List.getElem?_eq_none (by rw [boxN_len lm]; omega), List.getElem?_eq_none (by omega)]
  · refine ⟨lm, fun i us m hu hm => ?_⟩
    have hi := (List.getElem?_eq_some_iff.mp hu).1
    have h2 := List.getElem?_eq_getElem (l := ps) (i := i) (by omega)
    rw [boxM_get hu h2] at hm
    cases hm
    obtain ⟨a, c, _⟩ := pt i _ _ hu h2
    exact partM_lt (hf us (List.mem_of_getElem? hu)) a c
theorem and_pow (x i : Nat) : (((x &&& 2 ^ i : Nat) : Int) != 0) = x.testBit i := by
  cases e : x.testBit i with
  | true =>
    have : x &&& 2 ^ i ≠ 0 := fun z => by
      have := congrArg (fun n => n.testBit i) z
      simp [Nat.testBit_and, e, Nat.testBit_two_pow_self] at this
    simp only [bne_iff_ne, ne_eq]
    omega
  | false =>
    have : x &&& 2 ^ i = 0 := Nat.eq_of_testBit_eq fun j => by
      rw [Nat.testBit_and, Nat.zero_testBit]
      by_cases c : i = j
      · subst c; rw [e, Bool.false_and]
      · rw [Nat.testBit_two_pow_of_ne c, Bool.and_false]
    rw [this]
    rfl
theorem hasI_names : ∀ {fs : List (List Str)} {m : List Int} {ts : List Str}, (∀ us ∈ fs, us.Nodup) → MaskOk fs m → ThingOk fs ts → hasI m (masksOf fs ts) = hasB (boxN fs m) ts
  | [], [], [], _, _, _ => rfl
  | [], _ :: _, _, _, h, _ => by have := h.len; simp at this
  | [], [], _ :: _, _, _, h => by have := h.len; simp at this
  | _ :: _, [], _, _, h, _ => by have := h.len; simp at this
  | _ :: _, _ :: _, [], _, _, h => by have := h.len; simp at this
  | us :: fs, a :: m, t :: ts, hf, hm, h => by
    have ih := hasI_names (fs := fs) (m := m) (ts := ts) (fun u hu => hf u (List.mem_cons_of_mem _ hu)) ⟨by have := hm.len; simpa using this, fun i us m hu hm' => hm.mem (i + 1) us m (by simpa using hu) (by simpa using hm')⟩ ⟨by have := h.len; simpa using this, fun i us t hu hm' => h.mem (i + 1) us t (by simpa using hu) (by simpa using hm')⟩
    have tu := h.mem 0 us t rfl rfl
    obtain ⟨x, rfl⟩ := Int.eq_ofNat_of_zero_le (hm.mem 0 us a rfl rfl).1
    show ((Builtin.bitAnd (x : Int) (maskI us t) != 0) && hasI m (masksOf fs ts)) = (decide (t ∈ namesOf us x) && hasB (boxN fs m) ts)
    rw [ih, maskI_nat, show Builtin.bitAnd (x : Int) ((2 ^ (srt us).idxOf t : Nat) : Int) = ((x &&& 2 ^ (srt us).idxOf t : Nat) : Int) from rfl, and_pow]
    congr 1
    rw [Bool.eq_iff_iff, decide_eq_true_eq, names_mem (hf us List.mem_cons_self), Int.toNat_natCast]
    exact ⟨fun z => ⟨tu, z⟩, fun z => z.2⟩
/-! ### the least box -/
def onesT (rs : List (List Str × Int)) : List (List Str) := (rs.filter fun r => decide (r.2 = 1)).map (·.1)
def leastP (fs : List (List Str)) (rs : List (List Str × Int)) : List (List Str) := (List.range fs.length).map fun k => sset ((onesT rs).map fun t => t.getD k ⟨#[]⟩)
theorem sset_of {ns ts : List Str} (hs : ns.Pairwise leS) (nd : ns.Nodup) (hm : ∀ k, k ∈ ns ↔ k ∈ ts) : ns = sset ts :=
  List.Perm.eq_of_pairwise (le := leS) (fun a b _ _ => leS_anti) hs (srt_pair _) (((List.perm_ext_iff_of_nodup nd (dd_nodup ts)).mpr fun k => by rw [hm, dd_mem]).trans (srt_perm _).symm)
theorem boxOf_bits : ∀ {ks : List (List Int)} {st : List Int} {fs : List (List Str)} {i : Nat} {s : Int}, (∀ k ∈ ks, MaskOk fs k) → MaskOk fs st → i < fs.length → st[i]? = some s → ∃ m, (boxOf ks st)[i]? = some m ∧ 0 ≤ m ∧ ∀ j, m.toNat.testBit j = (s.toNat.testBit j || ks.any fun k => (k.getD i 0).toNat.testBit j)
  | [], st, fs, i, s, _, h, hi, e => ⟨s, e, (h.mem i _ s (List.getElem?_eq_getElem hi) e).1, fun j => by simp⟩
  | k :: ks, st, fs, i, s, hk, h, hi, e => by
    have h1 := hk k List.mem_cons_self
    have hki : i < k.length := by rw [h1.len]; exact hi
    have ek := List.getElem?_eq_getElem hki
    have us := List.getElem?_eq_getElem hi
    obtain ⟨x, rfl⟩ := Int.eq_ofNat_of_zero_le (h.mem i _ s us e).1
    obtain ⟨y, hy⟩ := Int.eq_ofNat_of_zero_le (h1.mem i _ k[i] us ek).1
    rw [hy] at ek
    obtain ⟨m, e1, e2, e3⟩ := boxOf_bits (ks := ks) (st := joinI st k) (fun x hx => hk x (List.mem_cons_of_mem _ hx)) (h.join h1) hi (joinI_get e ek)
    refine ⟨m, e1, e2, fun j => ?_⟩
    rw [e3 j, bitOr_nat, List.any_cons, List.getD_eq_getElem?_getD, ek]
    show ((x ||| y).testBit j || _) = (x.testBit j || (y.testBit j || _))
    rw [Nat.testBit_or, Bool.or_assoc]
theorem least_names {fs : List (List Str)} {rs : List (List Str × Int)} {os : List (List Int)} (hf : ∀ us ∈ fs, us.Nodup) (hr : ∀ r ∈ rs, RowOk fs r) (h1 : TellOk fs rs 1 os) : boxN fs (boxOf os (zeroI fs)) = leastP fs rs := by
  have ho := h1.ok hr
  have ok0 := boxOf_ok ho (zeroI_ok fs)
  apply List.ext_getElem?
  intro i
  by_cases hi : i < fs.length
  · have us := List.getElem?_eq_getElem hi
    have z0 : (zeroI fs)[i]? = some 0 := by unfold zeroI; rw [List.getElem?_map, us]; rfl
    obtain ⟨m, e1, e2, e3⟩ := boxOf_bits ho (zeroI_ok fs) hi z0
    have nd := hf _ (List.getElem_mem hi)
    rw [boxN_get us e1]
    have e4 : (leastP fs rs)[i]? = some (sset ((onesT rs).map fun t => t.getD i ⟨#[]⟩)) := by
      unfold leastP
      rw [List.getElem?_map, List.getElem?_range hi]; rfl
    rw [e4]
    congr 1
    refine sset_of ?_ ?_ fun t => ?_
    · rw [names_filter nd]; exact (srt_pair _).filter _
    · rw [names_filter nd]; exact (srt_nodup nd).filter _
    rw [names_mem nd, e3, List.mem_map]
    have z1 : (0 : Int).toNat.testBit ((srt fs[i]).idxOf t) = false := by simp
    rw [z1, Bool.false_or, List.any_eq_true]
    constructor
    · rintro ⟨ht, o, hoo, hb⟩
      obtain ⟨r, hr', eb, em⟩ := (h1.mem o).mp hoo
      have rok := hr r hr'
      have hti : i < r.1.length := by rw [rok.th.len]; exact hi
      have et := List.getElem?_eq_getElem hti
      have em2 := masksOf_get us et
      rw [em] at em2
      rw [List.getD_eq_getElem?_getD, em2] at hb
      have hb : (maskI fs[i] r.1[i]).toNat.testBit ((srt fs[i]).idxOf t) = true := hb
      rw [maskI_nat, Int.toNat_natCast] at hb
      have ri := rok.th.mem i _ _ us et
      refine ⟨r.1, List.mem_map.mpr ⟨r, List.mem_filter.mpr ⟨hr', decide_eq_true eb⟩, rfl⟩, ?_⟩
      rw [List.getD_eq_getElem?_getD, et]
      show r.1[i] = t
      by_cases c : (srt fs[i]).idxOf r.1[i] = (srt fs[i]).idxOf t
      · exact idx_inj ri ht c
      · rw [Nat.testBit_two_pow_of_ne c] at hb; cases hb
    · rintro ⟨ts, hts, et⟩
      obtain ⟨r, hr', rfl⟩ := List.mem_map.mp hts
      obtain ⟨hr', eb⟩ := List.mem_filter.mp hr'
      have rok := hr r hr'
      have hti : i < r.1.length := by rw [rok.th.len]; exact hi
      have eg := List.getElem?_eq_getElem hti
      rw [List.getD_eq_getElem?_getD, eg] at et
      have et : r.1[i] = t := et
      have ri := rok.th.mem i _ _ us eg
      rw [et] at ri eg
      refine ⟨ri, masksOf fs r.1, (h1.mem _).mpr ⟨r, hr', of_decide_eq_true eb, rfl⟩, ?_⟩
      rw [List.getD_eq_getElem?_getD, masksOf_get us eg]
      show (maskI fs[i] t).toNat.testBit _ = true
      rw [maskI_nat, Int.toNat_natCast, Nat.testBit_two_pow_self]
  · rw [List.getElem?_eq_none (by rw [boxN_len ok0.len]; omega), List.getElem?_eq_none (by unfold leastP; simp; omega)]
/-- told things with 1, and with 0 -/
theorem tell_all {fs ps : List (List Str)} {rs rs' : List (List Str × Int)} {os zs : List (List Int)} {m : List Int} (hh : ∀ ts, ThingOk fs ts → hasI m (masksOf fs ts) = hasB ps ts) (hr : ∀ r ∈ rs, RowOk fs r) (hm : ∀ r, r ∈ rs' ↔ r ∈ rs) (h1 : TellOk fs rs' 1 os) (h0 : TellOk fs rs' 0 zs) : ((os.all fun o => hasI m o) && cleanI m zs) = fitsB ps rs := by
  unfold fitsB cleanI
  rw [Bool.eq_iff_iff, Bool.and_eq_true, List.all_eq_true, List.all_eq_true, Bool.not_eq_true', List.any_eq_false]
  constructor
  · rintro ⟨q1, q0⟩ r hr'
    have ok := hr r hr'
    rw [← hh _ ok.th]
    rcases ok.bit with e | e
    · have := q0 _ ((h0.mem _).mpr ⟨r, (hm r).mpr hr', e, rfl⟩)
      rw [e]
      simpa using this
    · have := q1 _ ((h1.mem _).mpr ⟨r, (hm r).mpr hr', e, rfl⟩)
      rw [e]
      simpa using this
  · intro q
    refine ⟨fun k hk => ?_, fun k hk => ?_⟩
    · obtain ⟨r, hr', e, rfl⟩ := (h1.mem k).mp hk
      have hr'' := (hm r).mp hr'
      have := q r hr''
      rw [hh _ (hr r hr'').th]
      rw [e] at this
      simpa using this
    · obtain ⟨r, hr', e, rfl⟩ := (h0.mem k).mp hk
      have hr'' := (hm r).mp hr'
      have := q r hr''
      rw [hh _ (hr r hr'').th]
      rw [e] at this
      simpa using this
theorem judge_plain {fs ps : List (List Str)} {rs rs' : List (List Str × Int)} {os zs : List (List Int)} (hf : ∀ us ∈ fs, us.Nodup) (hr : ∀ r ∈ rs, RowOk fs r) (hm : ∀ r, r ∈ rs' ↔ r ∈ rs) (h1 : TellOk fs rs' 1 os) (h0 : TellOk fs rs' 0 zs) : judgeB fs ps os zs = (boxOkB fs ps && fitsB ps rs) := by
  unfold judgeB
  cases ok : boxOkB fs ps with
  | false => rfl
  | true =>
    obtain ⟨e1, e2⟩ := box_partM hf ok
    rw [Bool.true_and, Bool.true_and]
    exact tell_all (fun ts th => by rw [hasI_names hf e2 th, e1]) hr hm h1 h0
def dueLeast (fs : List (List Str)) (rs : List (List Str × Int)) : D := if onesT rs = [] ∨ fitsB (leastP fs rs) rs = false then .non else .tup ((leastP fs rs).map fieldD)
theorem least_plain {fs : List (List Str)} {rs rs' : List (List Str × Int)} {os zs : List (List Int)} (hf : ∀ us ∈ fs, us.Nodup) (hr : ∀ r ∈ rs, RowOk fs r) (hm : ∀ r, r ∈ rs' ↔ r ∈ rs) (h1 : TellOk fs rs' 1 os) (h0 : TellOk fs rs' 0 zs) (hl : leastP fs rs' = leastP fs rs) : leastD fs os zs = dueLeast fs rs := by
  have hr' : ∀ r ∈ rs', RowOk fs r := fun r h => hr r ((hm r).mp h)
  have ho := h1.ok hr'
  have ok0 := boxOf_ok ho (zeroI_ok fs)
  have en := least_names hf hr' h1
  rw [hl] at en
  have hh : ∀ ts, ThingOk fs ts → hasI (boxOf os (zeroI fs)) (masksOf fs ts) = hasB (leastP fs rs) ts := fun ts th => by rw [hasI_names hf ok0 th, en]
  have e0 : os = [] ↔ onesT rs = [] := by
    constructor
    · intro z
      unfold onesT
      rw [List.map_eq_nil_iff, List.filter_eq_nil_iff]
      intro r hr2 hb
      have := (h1.mem _).mpr ⟨r, (hm r).mpr hr2, of_decide_eq_true hb, rfl⟩
      rw [z] at this
      cases this
    · intro z
      cases os with
      | nil => rfl
      | cons o os =>
        obtain ⟨r, hr2, e, _⟩ := (h1.mem o).mp List.mem_cons_self
        have : r.1 ∈ onesT rs := List.mem_map.mpr ⟨r, List.mem_filter.mpr ⟨(hm r).mp hr2, decide_eq_true e⟩, rfl⟩
        rw [z] at this
        cases this
  have allO : (os.all fun o => hasI (boxOf os (zeroI fs)) o) = true := by
    rw [List.all_eq_true]
    intro o ho'
    obtain ⟨r, hr2, e, rfl⟩ := (h1.mem o).mp ho'
    have rok := hr' r hr2
    rw [hh _ rok.th, hasB_iff]
    intro i p t h2 h3
    unfold leastP at h2
    rw [List.getElem?_map] at h2
    obtain ⟨k, hk, rfl⟩ := Option.map_eq_some_iff.mp h2
    have hi : i < fs.length := by
      have := (List.getElem?_eq_some_iff.mp hk).1
      simpa using this
    rw [List.getElem?_range hi] at hk
    cases hk
    rw [sset_mem, List.mem_map]
    exact ⟨r.1, List.mem_map.mpr ⟨r, List.mem_filter.mpr ⟨(hm r).mp hr2, decide_eq_true e⟩, rfl⟩, by rw [List.getD_eq_getElem?_getD, h3]; rfl⟩
  have ta := tell_all hh hr hm h1 h0
  rw [allO, Bool.true_and] at ta
  unfold leastD dueLeast
  rw [ta, en]
  by_cases c : onesT rs = []
  · rw [if_pos (.inl (e0.mpr c)), if_pos (.inl c)]
  · by_cases d : fitsB (leastP fs rs) rs = false
    · rw [if_pos (.inr d), if_pos (.inr d)]
    · rw [if_neg (fun z => z.elim (fun z => c (e0.mp z)) d), if_neg (fun z => z.elim c d)]
theorem leastP_same {fs : List (List Str)} {rs rs' : List (List Str × Int)} (hm : ∀ r, r ∈ rs' ↔ r ∈ rs) : leastP fs rs' = leastP fs rs := by
  unfold leastP
  refine List.map_congr_left fun k _ => ?_
  refine sset_of (srt_pair _) (sset_nodup _) fun t => ?_
  rw [sset_mem]
  unfold onesT
  simp only [List.mem_map, List.mem_filter]
  constructor
  · rintro ⟨ts, ⟨r, ⟨h1, h2⟩, rfl⟩, rfl⟩
    exact ⟨_, ⟨r, ⟨(hm r).mp h1, h2⟩, rfl⟩, rfl⟩
  · rintro ⟨ts, ⟨r, ⟨h1, h2⟩, rfl⟩, rfl⟩
    exact ⟨_, ⟨r, ⟨(hm r).mpr h1, h2⟩, rfl⟩, rfl⟩
end
end SB
set_option Elab.async false
set_option linter.all false
set_option maxRecDepth 100000
set_option maxHeartbeats 4000000
namespace DL
open PySem PySem.Spec PyProof.Rows L2
/-! ### is, is not, of truth values -/
section
variable {X : Cx} {T : List Addr} {B : Bk} {a b e : Expr} {ρ : Rho} {S S1 S2 S' : Sto} {pos : Pos}
def rIsB : V → V → Hp → VK → Prop := fun x y H Q => ∃ u w, x = .bl u ∧ y = .bl w ∧ Q (.bl (u == w)) H
def rNotB : V → V → Hp → VK → Prop := fun x y H Q => ∃ u w, x = .bl u ∧ y = .bl w ∧ Q (.bl (!(u == w))) H
theorem op_isB : OpR X (compareOp .Is) rIsB := by
  intro pins s σ H x y v u Q I rx ry h
  obtain ⟨c, d, rfl, rfl, q⟩ := h
  cases rx; cases ry
  refine wpAny_is_plain rfl ⟨.bl (c == d), H, I, ?_, q⟩
  cases c <;> cases d <;> rfl
theorem op_notB : OpR X (compareOp .IsNot) rNotB := by
  intro pins s σ H x y v u Q I rx ry h
  obtain ⟨c, d, rfl, rfl, q⟩ := h
  cases rx; cases ry
  refine wpAny_isNot_plain rfl ⟨.bl (!(c == d)), H, I, ?_, q⟩
  cases c <;> cases d <;> rfl
theorem dt_isB {u w : Bool} (ha : DX X T B a ρ S (.bl u) S1) (hb : DX X T B b ρ S1 (.bl w) S2) (hn : behindInMarks .Is b = false := by rfl) : DT X T B (.Compare a [.Is] [b] pos) ρ S (u == w) S2 :=
  dt_cmp op_isB ha hb (fun H vx vy gd r1 r2 => by cases r1; cases r2; exact ⟨u, w, rfl, rfl, Pt.here ⟨rfl, rfl⟩ gd (.bl _)⟩) (fun _ _ _ _ _ m ⟨i, j, e1, e2, q⟩ => ⟨i, j, e1, e2, m _ _ q⟩) hn
theorem dt_notB {u w : Bool} (ha : DX X T B a ρ S (.bl u) S1) (hb : DX X T B b ρ S1 (.bl w) S2) (hn : behindInMarks .IsNot b = false := by rfl) : DT X T B (.Compare a [.IsNot] [b] pos) ρ S (!(u == w)) S2 :=
  dt_cmp op_notB ha hb (fun H vx vy gd r1 r2 => by cases r1; cases r2; exact ⟨u, w, rfl, rfl, Pt.here ⟨rfl, rfl⟩ gd (.bl _)⟩) (fun _ _ _ _ _ m ⟨i, j, e1, e2, q⟩ => ⟨i, j, e1, e2, m _ _ q⟩) hn
end
theorem kit_bool_tup (K : PySem.W.Frag) : PySem.W.kitOne K (.type "bool") (.type "tuple") = some false := by kernel_rfl
theorem kit_str_bool (K : PySem.W.Frag) : PySem.W.kitOne K (.type "str") (.type "bool") = some false := by kernel_rfl
theorem kit_str_int (K : PySem.W.Frag) : PySem.W.kitOne K (.type "str") (.type "int") = some false := by kernel_rfl
theorem kit_non_bool (K : PySem.W.Frag) : PySem.W.kitOne K (.type "NoneType") (.type "bool") = some false := by kernel_rfl
theorem kit_non_int (K : PySem.W.Frag) : PySem.W.kitOne K (.type "NoneType") (.type "int") = some false := by kernel_rfl
theorem kit_tup_str (K : PySem.W.Frag) : PySem.W.kitOne K (.type "tuple") (.type "str") = some false := by kernel_rfl
theorem kit_lst_str (K : PySem.W.Frag) : PySem.W.kitOne K (.type "list") (.type "str") = some false := by kernel_rfl
/-! ### a for over what is not wholly known -/
section
variable {X : Cx} {T : List Addr} {B : Bk} {e tg : Expr} {ρ : Rho} {S S1 : Sto} {P : DEnds} {rest sts : List Stmt} {pos : Pos}
def DIP (X : Cx) (T : List Addr) (B : Bk) (tg iter : Expr) (ρ : Rho) (S : Sto) (R : List D → Sto → Prop) : Prop :=
  ∀ σ H, Gd X.K T B H S → Slots X.K (mm S) H σ ρ → wI X tg iter σ H fun J H1 => ∃ xs S', R xs S' ∧ Gd X.K T B H1 S' ∧ Ext (mm S) (mm S') H H1 ∧ Yields X.K T xs (fun _ => True) (mm S') H1 J
theorem dip_lst {Q : D → Sto → Prop} {R : List D → Sto → Prop} (h : DE X T B e ρ S Q) (k : ∀ d S', Q d S' → ∃ xs, d = .lst xs ∧ R xs S') : DIP X T B tg e ρ S R := fun σ H g s =>
  wI_of (pi_list pe_w) (wE_mono (h σ H g s) fun v H1 ⟨d1, T1, q, r1, g1, x1⟩ => by
    obtain ⟨xs, e1, hR⟩ := k _ _ q
    subst e1
    obtain ⟨a, vs, ev, hl, rs⟩ := r1.lstL'
    refine ⟨a, ev, ⟨vs, hl _ _ (Ext.refl _ _)⟩, xs, T1, hR, g1, x1, fun i H2 S2 _ x2 g2 => ⟨fun hlt => ?_, fun hi => ⟨vs, hl _ _ x2, by rw [rs.length]; omega⟩⟩⟩
    obtain ⟨w, hw, rw'⟩ := rs.get (List.getElem?_eq_getElem hlt)
    refine ⟨⟨vs, w, hl _ _ x2, hw⟩, fun x H3 hy => ?_⟩
    obtain ⟨e3, hy⟩ := hy
    subst e3
    have := hy vs (hl _ _ x2)
    rw [hw] at this; cases this
    exact ⟨_, List.getElem?_eq_getElem hlt, rw'.ext x2, Ext.refl _ _, g2⟩)
theorem tLc_mono {wi : TI} {gt : TG} {tt : TT} {te : TE} {vs : List Nat} {σ : L2.St} {H : Hp} {Q Q' : VK} (h : tLc wi gt tt te vs σ H Q) (hw : ∀ R R', (∀ J H1, R J H1 → R' J H1) → wi σ H R → wi σ H R') (m : ∀ v H', Q v H' → Q' v H') : tLc wi gt tt te vs σ H Q' := by
  refine hw _ _ (fun J H1 q L hL => ?_) h
  obtain ⟨W, w0, wt⟩ := q L hL
  refine ⟨W, w0, fun n m' H2 w => ?_⟩
  rcases wt n m' H2 w with ⟨st, q⟩ | go
  · exact .inl ⟨st, m _ _ q⟩
  · exact .inr go
/-- [elt for tg in iter if ..] over what is not wholly known -/
theorem de_lcP {elt iter : Expr} {ifs : List Expr} {scope : Scope} {own : List (Str × Nat)} {R : List D → Sto → Prop} {Q : D → Sto → Prop} (hc : X.calm = true) (hN : X.N.Nodup) (hi : DIP X T B tg iter ρ S R) (ok : BlkOk X.N X.env.scope scope own)
    (k : ∀ xs S1, R xs S1 → ∃ I : Nat → List D → Sto → Prop, LcOk X T B elt tg ifs scope (own.map (·.2)) ρ xs (fun _ => True) S1 I ∧ ∀ acc S2 l, I xs.length acc S2 → Q (.ref l) (S2 ++ [(l, .lst acc)])) (hs : ∀ x, foldedSetIterable iter X.env x = pure x := by intro _; rfl) :
    DE X T B (.ListComp elt [⟨tg, iter, ifs, 0⟩] scope pos) ρ S Q := fun σ H g sl =>
  wE_of (pe_lc (own := own) hc hN pi_w ok pg_U pts_U pe_U hs) (wI_mono (hi σ H g sl) fun J H1 ⟨xs, S1, hR, g1, x1, Y⟩ => by
    obtain ⟨I, O, hQ⟩ := k xs S1 hR
    refine tLc_mono (wi := fun _ _ R => R J H1) (lc_core O σ H sl g1 x1 Y) (fun R R' m q => m J H1 q) ?_
    rintro v H' ⟨d, S'', ⟨acc, S2, l, hI, e1, e2⟩, r⟩
    subst e1; subst e2
    exact ⟨_, _, hQ acc S2 l hI, r⟩)
/-- for: the turns from one invariant to the next; what is walked is told behind -/
theorem qs_forP {iter : Expr} {R : List D → Sto → Prop} (hp : PassesOwn (model X.prog X.w) X.A X.env X.xe) (hc : X.calm = true) (hi : DIP X T B tg iter ρ S R) (k : ∀ xs S1, R xs S1 → ∃ I : Nat → Rho → Sto → Prop, I 0 ρ S1 ∧
    (∀ B', B.Le B' → ∀ i x ρ' S', xs[i]? = some x → I i ρ' S' → ∃ ρ2 ix, DG X tg x ρ' ρ2 ix ∧ DSs X T B' sts ρ2 S' { nx := I (i + 1), rt := P.rt, bk := fun ρ S => DSs X T B rest ρ S P, ct := I (i + 1) }) ∧
    ∀ ρ' S', I xs.length ρ' S' → DSs X T B rest ρ' S' P) (hf : ∀ x, foldedSetIterable iter X.env x = pure x := by intro _; rfl) : DSs X T B (.For tg iter sts [] pos :: rest) ρ S P :=
  dss_cons fun σ H g s => by
  refine wS_of (ps_for hp hc pi_w pg_w pss_w hf) (wI_mono (hi σ H g s) fun J H1 ⟨xs, S1, hR, g1, x1, Y⟩ => ?_)
  obtain ⟨I, h0, hs, hd⟩ := k xs S1 hR
  refine ⟨fun i m σ' H' => m = xs.length - i ∧ i ≤ xs.length ∧ ∃ ρ' S', I i ρ' S' ∧ Gd X.K T (B.since H1 S1) H' S' ∧ Slots X.K (mm S') H' σ' ρ', ⟨_, rfl, Nat.zero_le _, ρ, S1, h0, g1.since (Ext.refl _ _), s.ext x1⟩, ?_⟩
  rintro i m σ' H' ⟨rfl, hil, ρ', S', hI, g', s'⟩
  obtain ⟨y1, y2⟩ := Y i H' S' trivial g'.r.2 g'.g
  by_cases hlt : i < xs.length
  · obtain ⟨go, st⟩ := y1 hlt
    refine .inr ⟨go, fun σ' H' => ∃ ρ' S', I (i + 1) ρ' S' ∧ Gd X.K T (B.since H1 S1) H' S' ∧ Slots X.K (mm S') H' σ' ρ', fun σ2 H2 q => ⟨xs.length - (i + 1), by omega, rfl, hlt, q⟩, fun x H3 hy => ?_⟩
    obtain ⟨d, hd', r, x3, g3⟩ := st x H3 hy
    obtain ⟨ρ2, ix, hg, hb⟩ := hs _ (B.since_le H1 S1) i d ρ' S' hd' hI
    have g3' := g'.to x3 g3
    refine wG_mono (hg _ σ' H3 x (s'.ext x3) r) fun σ4 H4 ⟨e4, s4, _⟩ => ?_
    subst e4
    exact wSs_mono (hb σ4 _ g3' s4) (fun _ _ q => q) (fun _ _ ⟨d, S, p, g, q⟩ => ⟨d, S, p, g.le (B.since_le H1 S1), q⟩) (fun _ _ ⟨ρ, S, p, g, q⟩ => ⟨ρ, S, p, g.le (B.since_le H1 S1), q⟩) fun _ _ q => q
  · have e : i = xs.length := by omega
    subst e
    exact .inl ⟨y2 rfl, ρ', S', hd _ _ hI, g'.le (B.since_le H1 S1), s'⟩
theorem DN.cast {ds ds' : List D} (h : DN X T B e ρ S ds S1) (q : ds = ds') : DN X T B e ρ S ds' S1 := q ▸ h
/-- xs.append(e), e not wholly known -/
theorem qs_apE {o : Expr} {l : Addr} {Q : D → Sto → Prop} {cpos apos : Pos} (ho : DX X T B o ρ S (.ref l) S1) (he : DE X T B e ρ S1 Q) (h0 : ∃ ys, (l, D.lst ys) ∈ S1) (kk : ∀ d S2, Q d S2 → ∃ n xs, S2[n]? = some (l, .lst xs) ∧ xs.length < 100000 ∧ DSs X T B rest ρ (S2.set n (l, .lst (xs ++ [d]))) P)
    (hbase : attributeBase o "append" X.env (eval o X.env) = eval o X.env := by rfl)
    (hfew : ((backTo cpos (starEach (e :: []) X.env)).all (fun x => !x.1) && (backToKw cpos (keywordEach [] X.env)).all (fun x => x.1.isSome)
      && decide ((e :: []).length + ([] : List Keyword).length + (if ([] : List Keyword).isEmpty then 0 else 1) < 30)) = true := by rfl)
    (hline : (apos.endLine == cpos.line) = true := by rfl) (h1 : starEach (e :: []) X.env = (false, eval e X.env) :: starEach [] X.env := by rfl) (hplain : (backTo cpos (starEach [] X.env)).any (·.1) = false := by rfl)
    (hs : swapsWith (.Call (.Attribute o "append" apos) [e] [] cpos) none pos.line X.env = pure false := by rfl) : DSs X T B (.Expr (.Call (.Attribute o "append" apos) [e] [] cpos) pos :: rest) ρ S P :=
  dss_cons fun σ H g s =>
  wS_of (ps_expr (pe_bm PySem.F.plainAttrs_list PySem.F.slot_list_append PySem.F.type_list_append mt_append pe_w (pa_cons pe_w pa_nil h1) hbase hfew hline h1 hplain) hs) (wE_mono (ho σ H g s) fun v H1 ⟨d1, T1, ⟨e1, e2⟩, r1, g1, x1⟩ => by
    subst e1; subst e2; cases r1
    obtain ⟨ys, hy⟩ := h0
    obtain ⟨us, hu, _⟩ := g1.g.own _ hy
    refine ⟨.inl ⟨rfl, us, SqL.of hu⟩, wE_mono (he σ H1 g1 (s.ext x1)) fun v2 H2 ⟨d2, T2, q, r2, g2, x2⟩ => ?_⟩
    obtain ⟨n, xs, hk, hl, kk⟩ := kk d2 T2 q
    obtain ⟨ws, h1, h2⟩ := g2.g.own _ (List.mem_of_getElem? hk)
    have xw : Ext (mm T2) (mm T2) H2 (upd H2 l (.lst (ws ++ [v2]))) := by
      have := Ext.write (o := .lst (ws ++ [v2])) (d := .lst (xs ++ [d2])) g2.g hk
      rw [mm_set _ _ _ _ _ hk] at this
      exact this
    have gw := g2.g.write (o := .lst (ws ++ [v2])) (d := .lst (xs ++ [d2])) hk ⟨_, upd_same, (h2.ext xw).append (.cons (r2.ext xw) .nil)⟩
    have xw2 := Ext.write (o := .lst (ws ++ [v2])) (d := .lst (xs ++ [d2])) g2.g hk
    exact ⟨l, ws, v2, rfl, rfl, h1, by rw [h2.length]; exact Nat.lt_of_lt_of_le hl (by decide), ρ, _, kk, g2.to xw2 gw, s.ext ((x1.trans x2).trans xw2)⟩)
/-- a[b], a not wholly known -/
theorem de_ixL {a b : Expr} {Q Q' : D → Sto → Prop} (ha : DE X T B a ρ S Q) (k : ∀ d S1, Q d S1 → ∃ xs z i, d = .lst xs ∧ DX X T B b ρ S1 (.int i) S1 ∧ atI xs i = some z ∧ Q' z S1) (hs : PlainIx b := by exact fun _ _ => rfl) : DE X T B (.Subscript a b pos) ρ S Q' := fun σ H g s =>
  wE_of (pe_ix (r := rIxL X.K) ix_list pe_w pe_w hs) (wE_mono (ha σ H g s) fun vx H1 ⟨d, S1, q, r1, g1, x1⟩ => by
    obtain ⟨xs, z, i, e1, hb, hi, q'⟩ := k d S1 q
    subst e1
    refine wE_mono (hb σ H1 g1 (s.ext x1)) fun vy H2 ⟨d2, T2, ⟨e3, e4⟩, r2, g2, x2⟩ => ?_
    subst e3; subst e4
    cases r2
    have r1 := r1.ext x2
    obtain ⟨q, ws, e1, e2, e3⟩ := (Vw.rfl' (S := T2) (d := .lst xs)).lst g2.g r1
    subst e1
    obtain ⟨jj, h1, h2, h3, h4, h5⟩ := atI_get hi
    obtain ⟨w, hw, rw'⟩ := e3.get h2
    refine ⟨q, ws, i, w, rfl, rfl, e2, ?_, z, T2, q', rw', g2, x1.trans x2⟩
    unfold atI at hi ⊢
    rw [e3.length]
    cases hx : ixN xs.length i with
    | none => rw [hx] at hi; cases hi
    | some n =>
      obtain ⟨hq, _⟩ := ixN_seq hx
      rw [h1] at hq
      cases hq
      exact hw)
end
end DL
set_option Elab.async false
set_option linter.all false
set_option maxRecDepth 100000
set_option maxHeartbeats 1000000
namespace SB
open PySem PySem.Spec PyProof.Rows L2 DL
/-! ### data that is alike -/
inductive SameD : Nat → D → Prop where
  | non (n : Nat) : SameD n .non
  | bl (n : Nat) (b : Bool) : SameD n (.bl b)
  | int (n : Nat) (i : Int) : SameD n (.int i)
  | str (n : Nat) (s : Str) : SameD n (.str s)
  | tup (n : Nat) (xs : List D) : (∀ x ∈ xs, SameD n x) → xs.length ≤ 100000 → SameD (n + 1) (.tup xs)
theorem SameD.strs (n : Nat) {ts : List Str} (h : ts.length ≤ 100000) : SameD (n + 1) (fieldD ts) := .tup n _ (fun x hx => by
  obtain ⟨t, _, rfl⟩ := List.mem_map.mp hx
  exact .str n t) (by rw [List.length_map]; exact h)
section
variable {P : Program} {w : World} {K : PySem.W.Frag} {mg : Str → Option Value} {base : Heap} {T : List Addr}
abbrev s_law_same : Stmt := top 48
theorem sc_law_same : FnScope ["got", "due", "k"] ["got", "due"] (defScope s_law_same) := ⟨rfl, rfl, rfl, by decide +kernel, rfl, by decide +kernel, by decide +kernel⟩
-- got=0 due=1 k=2
def F_same (n : Nat) : FT := fun ds S P _ => ∃ d : D, ds = [d, d] ∧ SameD n d ∧ P (.bl true) S
theorem fd_same {f : Addr} {fd : FuncData} (F : Fun K "_law_same" "_law_same" s_law_same f fd) (b : BI mg) (n : Nat) (ih : n = 0 ∨ ∃ m, n = m + 1 ∧ FN P w K mg base T CX0 (m + 1) "_law_same" ["got", "due"] (F_same m)) (hb : Binds K fd ["got", "due"] []) : FD P w K mg base T CX0 (n + 1) f fd ["got", "due"] (F_same n) := by
  refine fd_d F sc_law_same hb (fun ds S P PX h => by obtain ⟨_, rfl, _⟩ := h; rfl) (fun cdv A outer st H E B ds S Q PX hr hF => ?_)
  obtain ⟨d, rfl, hd, hQ⟩ := hF
  cases hd with
  | non n =>
    refine qs_if (k := false) (DT.cast (dt_of (dx_isi (m := "tuple") b.isinstance rfl (dx_var 1 rfl) (dx_ty (n := "tuple") rfl b.tuple (by decide +kernel)) rfl (kit_non_tup _))) rfl) (fun e => nomatch e) (fun _ => qs_nil ?_)
    refine qs_if (k := true) (DT.cast (dt_isN (dx_var 1 rfl) (k := true) (fun _ _ _ r => by cases r <;> rfl)) rfl) (fun _ => ?_) (fun e => nomatch e)
    exact qs_ret (DX.cast (dx_isN (dx_var 0 rfl) (k := true) (fun _ _ _ r => by cases r <;> rfl)) rfl rfl) ⟨_, _, Fz.refl, hQ⟩
  | bl n u =>
    refine qs_if (k := false) (DT.cast (dt_of (dx_isi (m := "tuple") b.isinstance rfl (dx_var 1 rfl) (dx_ty (n := "tuple") rfl b.tuple (by decide +kernel)) rfl (kit_bool_tup _))) rfl) (fun e => nomatch e) (fun _ => qs_nil ?_)
    refine qs_if (k := false) (DT.cast (dt_isN (dx_var 1 rfl) (k := false) (fun _ _ _ r => by cases r <;> rfl)) rfl) (fun e => nomatch e) (fun _ => qs_nil ?_)
    refine qs_if (k := true) (DT.cast (dt_of (dx_isi (m := "bool") b.isinstance rfl (dx_var 1 rfl) (dx_ty (n := "bool") rfl b.bool (by decide +kernel)) rfl (kit_same _ _))) rfl) (fun _ => ?_) (fun e => nomatch e)
    exact qs_ret (d := .bl true) (S' := S) (dx_andT (S1 := S) (dx_isi (m := "bool") b.isinstance rfl (dx_var 0 rfl) (dx_ty (n := "bool") rfl b.bool (by decide +kernel)) rfl (kit_same _ _)) (dx_one (DX.cast (dx_eqB (dx_var 0 rfl) (dx_var 1 rfl)) (by simp) rfl))) ⟨_, _, Fz.refl, hQ⟩
  | int n u =>
    refine qs_if (k := false) (DT.cast (dt_of (dx_isi (m := "tuple") b.isinstance rfl (dx_var 1 rfl) (dx_ty (n := "tuple") rfl b.tuple (by decide +kernel)) rfl (kit_int_tup _))) rfl) (fun e => nomatch e) (fun _ => qs_nil ?_)
    refine qs_if (k := false) (DT.cast (dt_isN (dx_var 1 rfl) (k := false) (fun _ _ _ r => by cases r <;> rfl)) rfl) (fun e => nomatch e) (fun _ => qs_nil ?_)
    refine qs_if (k := false) (DT.cast (dt_of (dx_isi (m := "bool") b.isinstance rfl (dx_var 1 rfl) (dx_ty (n := "bool") rfl b.bool (by decide +kernel)) rfl (kit_int_bool _))) rfl) (fun e => nomatch e) (fun _ => qs_nil ?_)
    refine qs_if (k := true) (DT.cast (dt_of (dx_isi (m := "int") b.isinstance rfl (dx_var 1 rfl) (dx_ty (n := "int") rfl b.int (by decide +kernel)) rfl (kit_same _ _))) rfl) (fun _ => ?_) (fun e => nomatch e)
    exact qs_ret (d := .bl true) (S' := S) (dx_andT (S1 := S) (dx_isi (m := "int") b.isinstance rfl (dx_var 0 rfl) (dx_ty (n := "int") rfl b.int (by decide +kernel)) rfl (kit_same _ _)) (dx_andT (S1 := S) (DX.cast (dx_not (dx_isi (m := "bool") b.isinstance rfl (dx_var 0 rfl) (dx_ty (n := "bool") rfl b.bool (by decide +kernel)) rfl (kit_int_bool _))) rfl rfl) (dx_one (DX.cast (dx_eqI (dx_var 0 rfl) (dx_var 1 rfl)) (by simp) rfl)))) ⟨_, _, Fz.refl, hQ⟩
  | str n u =>
    refine qs_if (k := false) (DT.cast (dt_of (dx_isi (m := "tuple") b.isinstance rfl (dx_var 1 rfl) (dx_ty (n := "tuple") rfl b.tuple (by decide +kernel)) rfl (kit_str_tup _))) rfl) (fun e => nomatch e) (fun _ => qs_nil ?_)
    refine qs_if (k := false) (DT.cast (dt_isN (dx_var 1 rfl) (k := false) (fun _ _ _ r => by cases r <;> rfl)) rfl) (fun e => nomatch e) (fun _ => qs_nil ?_)
    refine qs_if (k := false) (DT.cast (dt_of (dx_isi (m := "bool") b.isinstance rfl (dx_var 1 rfl) (dx_ty (n := "bool") rfl b.bool (by decide +kernel)) rfl (kit_str_bool _))) rfl) (fun e => nomatch e) (fun _ => qs_nil ?_)
    refine qs_if (k := false) (DT.cast (dt_of (dx_isi (m := "int") b.isinstance rfl (dx_var 1 rfl) (dx_ty (n := "int") rfl b.int (by decide +kernel)) rfl (kit_str_int _))) rfl) (fun e => nomatch e) (fun _ => qs_nil ?_)
    exact qs_ret (d := .bl true) (S' := S) (dx_andT (S1 := S) (dx_isi (m := "str") b.isinstance rfl (dx_var 0 rfl) (dx_ty (n := "str") rfl b.str (by decide +kernel)) rfl (kit_same _ _)) (dx_one (DX.cast (dx_eqS (dx_var 0 rfl) (dx_var 1 rfl)) (by simp) rfl))) ⟨_, _, Fz.refl, hQ⟩
  | tup m xs hx hl =>
    obtain ⟨m', e, hs⟩ := ih.resolve_left (by omega)
    have e : m = m' := by omega
    subst e
    refine qs_if (k := true) (DT.cast (dt_of (dx_isi (m := "tuple") b.isinstance rfl (dx_var 1 rfl) (dx_ty (n := "tuple") rfl b.tuple (by decide +kernel)) rfl (kit_same _ _))) rfl) (fun _ => ?_) (fun e => nomatch e)
    refine qs_if (k := false) (DW.dt (dw_orF (DT.cast (dt_not (dt_of (dx_isi (m := "tuple") b.isinstance rfl (dx_var 0 rfl) (dx_ty (n := "tuple") rfl b.tuple (by decide +kernel)) rfl (kit_same _ _)))) rfl) (dw_or1 (DT.cast (dt_neI (dx_lenT b.len rfl (dx_var 0 rfl)) (dx_lenT b.len rfl (dx_var 1 rfl))) (by simp))))) (fun e => nomatch e) (fun _ => qs_nil ?_)
    refine qs_for (V := fun _ => True) (xs := rng 0 ((xs.length : Nat) : Int).toNat) (fun i ρ S' => ∃ v, S' = S ∧ ρ = [some (.tup xs), some (.tup xs), v]) PassesOwn.never rfl (by exact di_range1 (j := ((xs.length : Nat) : Int)) rfl b.range (dx_lenT b.len rfl (dx_var 1 rfl)) (by omega) (by omega)) ⟨_, rfl, rfl⟩ ?_ ?_
    · rintro B' hB i x ρ' S' hx' ⟨v, rfl, rfl⟩
      obtain ⟨hi, rfl⟩ := rng_get hx'
      have hi : i < xs.length := by omega
      have ix : atI xs (0 + (i : Nat)) = some xs[i] := by
        unfold atI ixN
        rw [if_pos (by omega), if_pos (by omega), show ((0 : Int) + (i : Nat)).toNat = i by omega]
        exact List.getElem?_eq_getElem hi
      refine ⟨_, _, dg_name 2 sc_law_same.nd, ?_⟩
      exact qs_if (k := false) (DT.cast (dt_not (k := true) (dt_of (de_call hs (hr.mono (by omega)) rfl pass0 (da_cons (dx_ixT (dx_var 0 rfl) (dx_var 2 rfl) ix) (da_cons (dx_ixT (dx_var 1 rfl) (dx_var 2 rfl) ix) da_nil)) ⟨_, rfl, hx _ (List.getElem_mem hi), rfl, rfl⟩))) rfl) (fun e => nomatch e) (fun _ => qs_nil (qs_nil ⟨_, rfl, rfl⟩))
    · rintro ρ' S' ⟨v, rfl, rfl⟩
      exact qs_ret dx_bl ⟨_, _, Fz.refl, hQ⟩
theorem fn_same {f : Addr} {fd : FuncData} (F : Fun K "_law_same" "_law_same" s_law_same f fd) (b : BI mg) (hm : mg "_law_same" = some (.ref f)) (hb : Binds K fd ["got", "due"] []) : ∀ n, FN P w K mg base T CX0 (n + 1) "_law_same" ["got", "due"] (F_same n)
  | 0 => (fd_same F b 0 (.inl rfl) hb).fn hm F.kp
  | n + 1 => (fd_same F b (n + 1) (.inr ⟨n, rfl, fn_same F b hm hb n⟩) hb).fn hm F.kp
end
end SB
set_option Elab.async false
set_option linter.all false
set_option maxRecDepth 100000
set_option maxHeartbeats 1000000
namespace SB
open PySem PySem.Spec PyProof.Rows L2 DL
section
variable {P : Program} {w : World} {K : PySem.W.Frag} {mg : Str → Option Value} {base : Heap} {T : List Addr}
def boxT (ps : List (List Str)) : D := .tup (ps.map fieldD)
def leastV (fs : List (List Str)) (rs : List (List Str × Int)) : D := if onesT rs = [] then .non else boxT (leastP fs rs)
abbrev s_law_least : Stmt := top 53
theorem sc_law_least : FnScope ["fields", "rows", "ones", "row", "k", "thing"] ["fields", "rows"] (defScope s_law_least) := ⟨rfl, rfl, rfl, by decide +kernel, rfl, by decide +kernel, by decide +kernel⟩
-- fields=0 rows=1 ones=2 row=3 k=4 thing=5
def F_lawLeast : FT := fun ds S P _ => ∃ (fs : List (List Str)) (rs : List (List Str × Int)), ds = [.lst (fs.map fieldD), .lst (rs.map rowD)] ∧ fs.length ≤ 6 ∧ rs.length ≤ 12 ∧ (∀ r ∈ rs, r.1.length = fs.length) ∧ P (leastV fs rs) S
theorem fd_lawLeast {f : Addr} {fd : FuncData} (F : Fun K "_law_least" "_law_least" s_law_least f fd) (b : BI mg) (hset : mg "set" = none) (hb : Binds K fd ["fields", "rows"] []) : FD P w K mg base T CX0 1 f fd ["fields", "rows"] F_lawLeast := by
  refine fd_d F sc_law_least hb (fun ds S P PX h => by obtain ⟨_, _, rfl, _⟩ := h; rfl) (fun cdv A outer st H E B ds S Q PX hr hF => ?_)
  obtain ⟨fs, rs, rfl, f6, r12, hl, hQ⟩ := hF
  have lenF : (fs.map fieldD).length = fs.length := List.length_map _
  refine qs_asgN 2 sc_law_least.nd (dn_lcf (V := fun _ => True) (own := [("row", 3)]) rs rowD (fun r => decide (r.2 = 1)) (fun r => fieldD r.1) rfl sc_law_least.nd (di_lst (dx_var 1 rfl)) (blkOk_by (own := [("row", 3)]) (N := ["fields", "rows", "ones", "row", "k", "thing"]) (sc := defScope s_law_least) (by decide +kernel)) (by omega) (fun _ _ => trivial) ⟨fun j r hj hm => ?_⟩) fun lf => ?_
  · refine ⟨_, _, ?_, fun s H C cl fp => dg_name 3 sc_law_least.nd, fun s H C cl fp B' L acc hB' => dts_one (dt_eqI (dx_ixT (dx_var 3 rfl) dx_int rfl) dx_int), fun _ s H C cl fp B' L acc hB' => (dx_ixT (dx_var 3 rfl) dx_int rfl)⟩
    intro j hj; simpa using hj
  refine dss_cv (Cv.froz (i := 2) rfl) ?_
  have eo : (rs.filter fun r => decide (r.2 = 1)).map (fun r => fieldD r.1) = (onesT rs).map fieldD := by unfold onesT; rw [List.map_map]; rfl
  rw [eo]
  have o12 : (onesT rs).length ≤ 12 := by
    unfold onesT
    rw [List.length_map]
    have := List.length_filter_le (fun r : List Str × Int => decide (r.2 = 1)) rs
    omega
  have olen : ∀ t ∈ onesT rs, t.length = fs.length := fun t ht => by
    obtain ⟨r, hr, rfl⟩ := List.mem_map.mp ht
    exact hl r (List.mem_filter.mp hr).1
  have lenO : ((onesT rs).map fieldD).length = (onesT rs).length := List.length_map _
  unfold leastV at hQ
  refine qs_if (dt_eqI (dx_lenL b.len rfl (dx_var 2 rfl) Vw.rfl') dx_int) (fun e => ?_) (fun e => qs_nil ?_)
  · have : onesT rs = [] := by
      rw [lenO] at e
      exact List.eq_nil_of_length_eq_zero (by have := of_decide_eq_true e; omega)
    rw [if_pos this] at hQ
    exact qs_ret dx_non ⟨_, _, Fz.refl, hQ⟩
  · have : ¬ onesT rs = [] := fun z => by rw [z] at e; simp at e
    rw [if_neg this] at hQ
    refine qs_ret (d := boxT (leastP fs rs)) (S' := S) (dx_tuple b.tuple rfl (DX.cast (DN.dx (dn_lcm (V := fun _ => True) (own := [("k", 4)]) (List.range fs.length) (fun k => .int (0 + (k : Nat))) (fun k => fieldD (sset ((onesT rs).map fun t => t.getD k ⟨#[]⟩))) rfl sc_law_least.nd
      (by exact di_range1 (j := ((fs.length : Nat) : Int)) rfl b.range (DX.cast (dx_lenL b.len rfl (dx_var 0 rfl) Vw.rfl') (by rw [lenF]) rfl) (by omega) (by omega)) (blkOk_by (own := [("k", 4)]) (N := ["fields", "rows", "ones", "row", "k", "thing"]) (sc := defScope s_law_least) (by decide +kernel)) (by rw [List.length_range]; omega) (fun _ _ => trivial) (fun i k hk hm => ?_))) (by unfold leastP; rw [List.map_map]; rfl) rfl) (.inl Vw.rfl')) ⟨_, _, Fz.refl, hQ⟩
    have hk := List.mem_range.mp hm
    refine ⟨_, _, ?_, fun s H C cl fp => dg_name 4 sc_law_least.nd, fun s H C cl fp B' L acc hB' => ?_⟩
    · intro j hj; simpa using hj
    have em : (onesT rs).map (fun t => D.str (t.getD k ⟨#[]⟩)) = ((onesT rs).map fun t => t.getD k ⟨#[]⟩).map D.str := by rw [List.map_map]; rfl
    refine dx_tuple b.tuple rfl (DN.dx (dn_sortSet (ts := (onesT rs).map fun t => t.getD k ⟨#[]⟩) rfl rfl b.sorted rfl hset (DX.cast (DN.dx (dn_lcm (V := fun _ => True) (own := [("thing", 5)]) (onesT rs) fieldD (fun t => D.str (t.getD k ⟨#[]⟩)) rfl sc_law_least.nd (di_lst (dx_var 2 rfl)) (blkOk_by (own := [("thing", 5)]) (N := ["fields", "rows", "ones", "row", "k", "thing"]) (by kernel_rfl)) (by omega) (fun _ _ => trivial) (fun i t ht htm => ?_))) (by rw [em]) rfl) Vw.rfl' (by rw [List.length_map]; omega))) (.inl Vw.rfl')
    have tl := olen t htm
    have hkt : k < t.length := by omega
    have ix : atI (t.map D.str) (0 + (k : Nat)) = some (.str (t.getD k ⟨#[]⟩)) := by
      unfold atI ixN
      rw [List.length_map, if_pos (by omega), if_pos (by omega), show ((0 : Int) + (k : Nat)).toNat = k by omega]
      show (t.map D.str)[k]? = _
      rw [List.getElem?_map, List.getD_eq_getElem?_getD, List.getElem?_eq_getElem hkt]; rfl
    refine ⟨_, _, ?_, fun s H C cl fp => dg_name 5 sc_law_least.nd, fun s H C cl fp B' L acc hB' => (dx_ixT (dx_var 5 rfl) (dx_var 4 rfl) ix)⟩
    intro j hj; simpa using hj
end
end SB
set_option Elab.async false
set_option linter.all false
set_option maxRecDepth 100000
set_option maxHeartbeats 1000000
namespace SB
open PySem PySem.Spec PyProof.Rows L2 DL
section
variable {P : Program} {w : World} {K : PySem.W.Frag} {mg : Str → Option Value} {base : Heap} {T : List Addr}
def F_hasT : FT := fun ds S P _ => ∃ (x : D) (hs : List (List Str)) (ts : List Str), ds = [boxT hs, x] ∧ SeqD S x (ts.map D.str) ∧ hs.length = ts.length ∧ hs.length ≤ 6 ∧ P (.bl (hasB hs ts)) S
theorem fn_hasT {f : Addr} {fd : FuncData} (F : Fun K "_law_has" "_law_has" s_law_has f fd) (b : BI mg) (hm : mg "_law_has" = some (.ref f)) (hb : Binds K fd ["box", "thing"] []) : FN P w K mg base T CX0 1 "_law_has" ["box", "thing"] F_hasT := by
  refine fn_d F sc_law_has hm hb (fun ds S P PX h => by obtain ⟨_, _, _, rfl, _⟩ := h; rfl) (fun cdv A outer st H E B ds S Q PX hr hF => ?_)
  obtain ⟨x, hs, ts, rfl, hx, hl, h6, hQ⟩ := hF
  have lenH : (hs.map fieldD).length = hs.length := List.length_map _
  refine qs_for (V := fun _ => True) (xs := rng 0 (((hs.map fieldD).length : Int)).toNat) (fun i ρ S' => ∃ (v : Option D), (∀ (j : Nat) h t, j < i → hs[j]? = some h → ts[j]? = some t → t ∈ h) ∧ S' = S ∧ ρ = [some (boxT hs), some x, v]) PassesOwn.never rfl
    (di_range1 rfl b.range (dx_lenT b.len rfl (dx_var 0 rfl)) (by omega) (by omega)) ⟨_, fun _ _ _ h => absurd h (Nat.not_lt_zero _), rfl, rfl⟩ ?_ ?_
  · rintro B' hB i x ρ' S' hx' ⟨v, H, rfl, rfl⟩
    obtain ⟨hi, rfl⟩ := rng_get hx'
    have hi : i < hs.length := by omega
    have e0 : (0 + (i : Int)).toNat = i := by omega
    obtain ⟨h, hh, hh2⟩ := atI_map fieldD (xs := hs) (r := 0 + (i : Int)) (by omega) (by omega)
    obtain ⟨t, ht, ht2⟩ := atI_map D.str (xs := ts) (r := 0 + (i : Int)) (by omega) (by omega)
    rw [e0] at hh ht
    refine ⟨_, _, dg_name 2 sc_law_has.nd, ?_⟩
    refine qs_if (DT.cast (k' := !decide (t ∈ h)) (dt_ninTs (ts := h) (dx_ixQ (dx_var 1 rfl) (dx_var 2 rfl) hx ht2) (dx_ixT (dx_var 0 rfl) (dx_var 2 rfl) hh2) (.inr rfl)) rfl) (fun e => ?_) (fun e => ?_)
    · have e : ¬ t ∈ h := by simpa using e
      refine qs_ret dx_bl ⟨_, _, Fz.refl, ?_⟩
      have : hasB hs ts = false := by
        cases hc : hasB hs ts with
        | false => rfl
        | true => exact absurd (hasB_iff.mp hc i h t hh ht) e
      rw [this] at hQ; exact hQ
    · have e : t ∈ h := by simpa using e
      refine qs_nil (qs_nil ⟨_, fun j h' t' hj h1 h2 => ?_, rfl, rfl⟩)
      rcases Nat.lt_or_ge j i with c | c
      · exact H j h' t' c h1 h2
      · have : j = i := by omega
        subst this
        rw [hh] at h1; rw [ht] at h2
        cases h1; cases h2; exact e
  · rintro ρ' S' ⟨v, H, rfl, rfl⟩
    rw [rng_length] at H
    refine qs_ret dx_bl ⟨_, _, Fz.refl, ?_⟩
    have : hasB hs ts = true := hasB_iff.mpr fun i h t h1 h2 => H i h t (by have := (List.getElem?_eq_some_iff.mp h1).1; omega) h1 h2
    rw [this] at hQ; exact hQ
abbrev s_law_fits : Stmt := top 54
theorem sc_law_fits : FnScope ["box", "rows", "thing", "bit"] ["box", "rows"] (defScope s_law_fits) := ⟨rfl, rfl, rfl, by decide +kernel, rfl, by decide +kernel, by decide +kernel⟩
-- box=0 rows=1 thing=2 bit=3
def F_fitsT : FT := fun ds S P _ => ∃ (b : List (List Str)) (d : D) (rs : List (List Str × Int)), ds = [boxT b, d] ∧ SqD d (rs.map rowD) ∧ b.length ≤ 6 ∧ (∀ r ∈ rs, r.1.length = b.length) ∧ P (.bl (fitsB b rs)) S
theorem fd_fitsT {f : Addr} {fd : FuncData} (F : Fun K "_law_fits" "_law_fits" s_law_fits f fd) (hh : FN P w K mg base T CX0 1 "_law_has" ["box", "thing"] F_hasT) (hb : Binds K fd ["box", "rows"] []) : FD P w K mg base T CX0 2 f fd ["box", "rows"] F_fitsT := by
  refine fd_d F sc_law_fits hb (fun ds S P PX h => by obtain ⟨_, _, _, rfl, _⟩ := h; rfl) (fun cdv A outer st H E B ds S Q PX hr hF => ?_)
  obtain ⟨b, d, rs, rfl, hd, b6, hl, hQ⟩ := hF
  refine qs_for (V := fun _ => True) (xs := rs.map rowD) (fun i ρ S' => (∀ r ∈ rs.take i, (hasB b r.1 == decide (r.2 = 1)) = true) ∧ ∃ u v, S' = S ∧ ρ = [some (boxT b), some d, u, v]) PassesOwn.never rfl (di_sq (dx_var 1 rfl) hd) ⟨fun _ h => absurd h (by simp), _, _, rfl, rfl⟩ ?_ ?_
  · rintro B' hB i x ρ' S' hx ⟨hall, u, v, rfl, rfl⟩
    rw [List.getElem?_map] at hx
    obtain ⟨r, hr', rfl⟩ := Option.map_eq_some_iff.mp hx
    have rm := List.mem_of_getElem? hr'
    have rl := hl r rm
    refine ⟨_, _, dg_pair 2 3 sc_law_fits.nd rfl, ?_⟩
    refine qs_if (dt_neB (de_call hh (hr.mono (by omega)) rfl pass0 (da_cons (dx_var 0 rfl) (da_cons (dx_var 2 rfl) da_nil)) ⟨_, b, r.1, rfl, .inr rfl, by rw [rl], b6, rfl, rfl⟩) (dx_eqI (dx_var 3 rfl) dx_int)) (fun e => ?_) (fun e => qs_nil (qs_nil ⟨fun r' hr2 => ?_, _, _, rfl, rfl⟩))
    · have : fitsB b rs = false := by
        unfold fitsB
        rw [List.all_eq_false]
        refine ⟨r, rm, fun z => ?_⟩
        rw [eq_of_beq z] at e
        simp at e
      rw [this] at hQ
      exact qs_ret dx_bl ⟨_, _, Fz.refl, hQ⟩
    · have tk : rs.take (i + 1) = rs.take i ++ [r] := by rw [List.take_succ, hr']; rfl
      rw [tk] at hr2
      rcases List.mem_append.mp hr2 with z | z
      · exact hall r' z
      · rw [List.mem_singleton.mp z]
        have : hasB b r.1 = decide (r.2 = 1) := by simpa using e
        rw [this]
        exact beq_self_eq_true _
  · rintro ρ' S' ⟨hall, u, v, rfl, rfl⟩
    rw [List.length_map, List.take_length] at hall
    have : fitsB b rs = true := List.all_eq_true.mpr hall
    rw [this] at hQ
    exact qs_ret dx_bl ⟨_, _, Fz.refl, hQ⟩
end
end SB
set_option Elab.async false
set_option linter.all false
set_option maxRecDepth 100000
set_option maxHeartbeats 1000000
namespace SB
open PySem PySem.Spec PyProof.Rows L2 DL
/-! ### drawn boxes -/
structure PartOk (us p : List Str) : Prop where
  ne : p ≠ []
  asc : p.Pairwise leS
  nd : p.Nodup
  sub : ∀ t ∈ p, t ∈ us
structure BoxGood (fs ps : List (List Str)) : Prop where
  len : ps.length = fs.length
  part : ∀ (i : Nat) us p, fs[i]? = some us → ps[i]? = some p → PartOk us p
theorem PartOk.filter {us p : List Str} (nu : us.Nodup) (h : PartOk us p) : p = (srt us).filter fun t => decide (t ∈ p) :=
  List.Perm.eq_of_pairwise (le := leS) (fun a b _ _ => leS_anti) h.asc ((srt_pair us).filter _) ((List.perm_ext_iff_of_nodup h.nd ((srt_nodup nu).filter _)).mpr fun t => by
    rw [List.mem_filter, srt_mem, decide_eq_true_eq]
    exact ⟨fun z => ⟨h.sub t z, z⟩, fun z => z.2⟩)
theorem BoxGood.ok {fs ps : List (List Str)} (hf : ∀ us ∈ fs, us.Nodup) (h : BoxGood fs ps) : boxOkB fs ps = true :=
  boxOkB_of h.len fun i us p h1 h2 => ⟨(h.part i us p h1 h2).ne, (h.part i us p h1 h2).filter (hf us (List.mem_of_getElem? h1))⟩
theorem PartOk.srt {us h : List Str} (ne : h ≠ []) (nd : h.Nodup) (sub : ∀ t ∈ h, t ∈ us) : PartOk us (srt h) :=
  ⟨fun z => ne (List.length_eq_zero_iff.mp (by rw [← srt_length, z]; rfl)), srt_pair h, srt_nodup nd, fun t ht => sub t (srt_mem.mp ht)⟩
theorem BoxGood.set {fs ps : List (List Str)} {i : Nat} {us p : List Str} (h : BoxGood fs ps) (hu : fs[i]? = some us) (hp : PartOk us p) : BoxGood fs (ps.set i p) := by
  refine ⟨by rw [List.length_set]; exact h.len, fun j vs q h1 h2 => ?_⟩
  by_cases e : i = j
  · subst e
    rw [hu] at h1
    cases h1
    have hi : i < ps.length := by rw [h.len]; exact (List.getElem?_eq_some_iff.mp hu).1
    rw [List.getElem?_set_self hi] at h2
    cases h2
    exact hp
  · rw [List.getElem?_set_ne e] at h2
    exact h.part j vs q h1 h2
theorem erase_map {α β : Type} (f : α → β) : ∀ (l : List α) (k : Nat), (l.map f).eraseIdx k = (l.eraseIdx k).map f
  | [], _ => rfl
  | _ :: _, 0 => rfl
  | x :: l, k + 1 => by
    show f x :: (l.map f).eraseIdx k = f x :: (l.eraseIdx k).map f
    rw [erase_map f l k]
theorem set_cut {ps : List D} {i : Nat} {x : D} (h : i < ps.length) : DL.cutD ps none (some (i : Int)) ++ [x] ++ DL.cutD ps (some ((i : Int) + 1)) none = ps.set i x := by
  rw [show (i : Int) + 1 = ((i + 1 : Nat) : Int) by omega, cutD_hi, cutD_lo, List.set_eq_take_append_cons_drop, if_pos h, List.append_assoc]
  rfl
theorem least_good {fs : List (List Str)} {rs : List (List Str × Int)} (hr : ∀ r ∈ rs, RowOk fs r) (h : ¬ onesT rs = []) : BoxGood fs (leastP fs rs) := by
  refine ⟨by simp [leastP], fun i us p h1 h2 => ?_⟩
  have hi := (List.getElem?_eq_some_iff.mp h1).1
  unfold leastP at h2
  rw [List.getElem?_map, List.getElem?_range hi] at h2
  cases h2
  have sub : ∀ t, t ∈ (onesT rs).map (fun t => t.getD i ⟨#[]⟩) → t ∈ us := fun t ht => by
    obtain ⟨ts, hts, rfl⟩ := List.mem_map.mp ht
    obtain ⟨r, hr', rfl⟩ := List.mem_map.mp hts
    have ok := (hr r (List.mem_filter.mp hr').1).th
    have hti : i < r.1.length := by rw [ok.len]; exact hi
    have e := List.getElem?_eq_getElem hti
    rw [List.getD_eq_getElem?_getD, e]
    exact ok.mem i us _ h1 e
  refine ⟨fun z => ?_, srt_pair _, sset_nodup _, fun t ht => sub t (sset_mem.mp ht)⟩
  obtain ⟨ts, rest, e⟩ := List.exists_cons_of_ne_nil h
  have : ts.getD i ⟨#[]⟩ ∈ sset ((onesT rs).map fun t => t.getD i ⟨#[]⟩) := by rw [sset_mem, e]; simp
  have z : sset ((onesT rs).map fun t => t.getD i ⟨#[]⟩) = [] := z
  rw [z] at this
  cases this
section
variable {P : Program} {w : World} {K : PySem.W.Frag} {mg : Str → Option Value} {base : Heap} {T : List Addr}
abbrev s_law_boxes : Stmt := top 55
theorem sc_law_boxes : FnScope ["pool", "fields", "hidden", "least", "boxes", "field", "part", "k", "box", "at", "more", "mark"] ["pool", "fields", "hidden", "least"] (defScope s_law_boxes) := ⟨rfl, rfl, rfl, by decide +kernel, rfl, by decide +kernel, by decide +kernel⟩
-- pool=0 fields=1 hidden=2 least=3 boxes=4 field=5 part=6 k=7 box=8 at=9 more=10 mark=11
def F_lawBoxes : FT := fun ds S P _ => ∃ (lp : Addr) (k : Nat) (p : Pool) (fs hs : List (List Str)) (v : D), ds = [.ref lp, .lst (fs.map fieldD), .lst (hs.map partD), v] ∧ PS S k lp p ∧ (∀ us ∈ fs, us ≠ [] ∧ us.length ≤ 6 ∧ us.Nodup) ∧ 1 ≤ fs.length ∧ fs.length ≤ 6 ∧ HidOk fs hs ∧ (v = .non ∨ ∃ ls, v = boxT ls ∧ BoxGood fs ls) ∧
  ∀ (bs : List (List (List Str))) (p' : Pool), p'.Ok → 2 ≤ bs.length → bs.length ≤ 24 → (∀ b ∈ bs, BoxGood fs b) → P (.lst (bs.map boxT)) (S.set k (lp, p'.D))
theorem fd_lawBoxes {f : Addr} {fd : FuncData} (F : Fun K "_law_boxes" "_law_boxes" s_law_boxes f fd) (b : BI mg) (hd : FN P w K mg base T CX0 1 "_law_draw" ["pool", "many"] F_draw) (hhi : FN P w K mg base T CX0 2 "_law_hidden" ["pool", "fields"] F_hidden) (hb : Binds K fd ["pool", "fields", "hidden", "least"] []) : FD P w K mg base T CX0 3 f fd ["pool", "fields", "hidden", "least"] F_lawBoxes := by
  refine fd_d F sc_law_boxes hb (fun ds S P PX h => by obtain ⟨_, _, _, _, _, _, rfl, _⟩ := h; rfl) (fun cdv A outer st H E B ds S Q PX hr hF => ?_)
  obtain ⟨lp, k, p, fs, hs, v, rfl, ps, hfs, f1, f6, hid, hv, hQ⟩ := hF
  have lenF : (fs.map fieldD).length = fs.length := List.length_map _
  have hfl : ∀ us ∈ fs, us ≠ [] ∧ us.length ≤ 6 := fun us hu => ⟨(hfs us hu).1, (hfs us hu).2.1⟩
  have len_of : ∀ q : Pool, (S.set k (lp, q.D)).length = S.length := fun q => List.length_set
  have lp_of : ∀ (q : Pool) (x : Addr × D), q.Ok → PS (S.set k (lp, q.D) ++ [x]) k lp q := fun q x ok => (PS.new ps.at_ ok).pre
  have lp_of2 : ∀ (q : Pool) (x y : Addr × D), q.Ok → PS (S.set k (lp, q.D) ++ [x] ++ [y]) k lp q := fun q x y ok => (lp_of q x ok).pre
  have set_of : ∀ (q q' : Pool) (x : Addr × D), (S.set k (lp, q.D) ++ [x]).set k (lp, q'.D) = S.set k (lp, q'.D) ++ [x] := fun q q' x => by rw [set_pre (at_set ps.at_), List.set_set]
  have set_of2 : ∀ (q q' : Pool) (x y : Addr × D), (S.set k (lp, q.D) ++ [x] ++ [y]).set k (lp, q'.D) = S.set k (lp, q'.D) ++ [x] ++ [y] := fun q q' x y => by rw [set_pre (at_pre (at_set ps.at_)), set_of]
  have at_b : ∀ (q : Pool) (x : Addr × D), (S.set k (lp, q.D) ++ [x])[S.length]? = some x := fun q x => by rw [← len_of q]; exact at_last
  have at_b2 : ∀ (q : Pool) (x y : Addr × D), (S.set k (lp, q.D) ++ [x] ++ [y])[S.length]? = some x := fun q x y => by rw [← len_of q]; exact at_pre at_last
  have set_b : ∀ (q : Pool) (x y : Addr × D), (S.set k (lp, q.D) ++ [x]).set S.length y = S.set k (lp, q.D) ++ [y] := fun q x y => by rw [← len_of q, set_last]
  have set_b2 : ∀ (q : Pool) (x y z : Addr × D), (S.set k (lp, q.D) ++ [x] ++ [y]).set S.length z = S.set k (lp, q.D) ++ [z] ++ [y] := fun q x y z => by rw [← len_of q, set_pre at_last, set_last]
  have set_c : ∀ (q : Pool) (x y z : Addr × D), (S.set k (lp, q.D) ++ [x] ++ [y]).set (S.length + 1) z = S.set k (lp, q.D) ++ [x] ++ [z] := fun q x y z => by rw [← len_of q, show (S.set k (lp, q.D)).length + 1 = (S.set k (lp, q.D) ++ [x]).length by simp, set_last]
  have at_c : ∀ (q : Pool) (x y : Addr × D), (S.set k (lp, q.D) ++ [x] ++ [y])[S.length + 1]? = some y := fun q x y => by rw [← len_of q, show (S.set k (lp, q.D)).length + 1 = (S.set k (lp, q.D) ++ [x]).length by simp]; exact at_last
  have app_bs : ∀ (bs : List (List (List Str))) (x : List (List Str)), bs.map boxT ++ [boxT x] = (bs ++ [x]).map boxT := fun bs x => by rw [List.map_append]; rfl
  -- boxes of sorted parts
  have fullG : BoxGood fs (fs.map srt) := ⟨List.length_map _, fun i us q h1 h2 => by
    rw [List.getElem?_map, h1] at h2
    cases h2
    have := hfs us (List.mem_of_getElem? h1)
    exact PartOk.srt this.1 this.2.2 fun t ht => ht⟩
  have hidG : ∀ hs : List (List Str), HidOk fs hs → BoxGood fs (hs.map srt) := fun hs hid => ⟨by rw [List.length_map, hid.len], fun i us q h1 h2 => by
    rw [List.getElem?_map] at h2
    obtain ⟨h, e, rfl⟩ := Option.map_eq_some_iff.mp h2
    obtain ⟨n, s⟩ := hid.sub i h us e h1
    exact PartOk.srt n ((hfs us (List.mem_of_getElem? h1)).2.2.sublist s) fun t ht => s.subset ht⟩
  have hidL : ∀ hs : List (List Str), HidOk fs hs → hs.length ≤ 6 ∧ ∀ h ∈ hs, h.length ≤ 6 := fun hs hid => ⟨by rw [hid.len]; exact f6, fun h hh => by
    obtain ⟨i, hi⟩ := List.getElem?_of_mem hh
    have hlt : i < fs.length := by rw [← hid.len]; exact (List.getElem?_eq_some_iff.mp hi).1
    have hu := List.getElem?_eq_getElem hlt
    exact Nat.le_trans (hid.sub i h _ hi hu).2.length_le (hfl _ (List.getElem_mem hlt)).2⟩
  obtain ⟨h6, hh6⟩ := hidL hs hid
  refine qs_asgN 4 sc_law_boxes.nd (DN.cast (dn_lst (da_cons (dx_tuple b.tuple rfl (DN.dx (dn_lcm (V := fun _ => True) (own := [("field", 5)]) fs fieldD (fun us => fieldD (srt us)) rfl sc_law_boxes.nd (di_lst (dx_var 1 rfl)) (blkOk_by (own := [("field", 5)]) (N := ["pool", "fields", "hidden", "least", "boxes", "field", "part", "k", "box", "at", "more", "mark"]) (sc := defScope s_law_boxes) (by decide +kernel)) (by omega) (fun _ _ => trivial) (fun i us hu hm => ?_))) (.inl Vw.rfl'))
    (da_cons (dx_tuple b.tuple rfl (DN.dx (dn_lcm (V := fun _ => True) (own := [("part", 6)]) hs partD (fun us => fieldD (srt us)) rfl sc_law_boxes.nd (di_lst (dx_var 2 rfl)) (blkOk_by (own := [("part", 6)]) (N := ["pool", "fields", "hidden", "least", "boxes", "field", "part", "k", "box", "at", "more", "mark"]) (sc := defScope s_law_boxes) (by decide +kernel)) (by omega) (fun _ _ => trivial) (fun i us hu hm => ?_))) (.inl Vw.rfl')) da_nil)) (Nat.le_of_ble_eq_true rfl)) (ds' := [fs.map srt, hs.map srt].map boxT) (by simp [boxT, Function.comp_def])) fun lb => ?_
  · have u6 := (hfl us hm).2
    refine ⟨_, _, ?_, fun s H C cl fp => dg_name 5 sc_law_boxes.nd, fun s H C cl fp B' L acc hB' => dx_tuple b.tuple rfl (DN.dx (dn_srt b.sorted rfl (dx_var 5 rfl) (.inr rfl) (by omega))) (.inl Vw.rfl')⟩
    intro j hj; simpa using hj
  · have u6 := hh6 us hm
    refine ⟨_, _, ?_, fun s H C cl fp => dg_name 6 sc_law_boxes.nd, fun s H C cl fp B' L acc hB' => dx_tuple b.tuple rfl (DN.dx (dn_srt b.sorted rfl (dx_var 6 rfl) (.inl Vw.rfl') (by omega))) (.inl Vw.rfl')⟩
    intro j hj; simpa using hj
  -- the least one
  refine qs_ifJ (fun ρ S' => ∃ (bs : List (List (List Str))), 2 ≤ bs.length ∧ bs.length ≤ 3 ∧ (∀ b ∈ bs, BoxGood fs b) ∧ S' = S.set k (lp, p.D) ++ [(lb, .lst (bs.map boxT))] ∧ ρ = [some (.ref lp), some (.lst (fs.map fieldD)), some (.lst (hs.map partD)), some v, some (.ref lb), none, none, none, none, none, none, none]) (S1 := S ++ [(lb, .lst ([fs.map srt, hs.map srt].map boxT))]) (k := match v with | .non => false | _ => true) ?_ (fun e => ?_) (fun e => ?_) ?_
  · rcases hv with rfl | ⟨ls, rfl, _⟩
    · exact dt_notN (dx_var 3 rfl) (k := true) (fun _ _ _ r => by cases r <;> rfl)
    · exact dt_notN (dx_var 3 rfl) (k := false) (fun _ _ _ r => by cases r <;> rfl)
  · rcases hv with rfl | ⟨ls, rfl, hls⟩
    · cases e
    · refine qs_ap (n := S.length) (d := boxT ls) (xs := [fs.map srt, hs.map srt].map boxT) (dx_var 4 rfl) (dx_var 3 rfl) ⟨_, mem_last⟩ at_last (by simp) (qs_nil ⟨[fs.map srt, hs.map srt, ls], by simp, by simp, ?_, ?_, rfl⟩)
      · intro x hx
        simp only [List.mem_cons, List.not_mem_nil, or_false] at hx
        rcases hx with rfl | rfl | rfl
        · exact fullG
        · exact hidG hs hid
        · exact hls
      · rw [set_last, set_same ps.at_]; rfl
  · refine qs_nil ⟨[fs.map srt, hs.map srt], by simp, by simp, ?_, by rw [set_same ps.at_], rfl⟩
    intro x hx
    simp only [List.mem_cons, List.not_mem_nil, or_false] at hx
    rcases hx with rfl | rfl
    · exact fullG
    · exact hidG hs hid
  rintro ρ1 S1 ⟨bs, b2, b3, hbs, rfl, rfl⟩
  -- three drawn ones
  refine qs_for (V := fun _ => True) (xs := rng 0 ((3 : Int)).toNat) (fun i ρ S' => ∃ (q : Pool) (bs : List (List (List Str))) (v7 : Option D), q.Ok ∧ 2 ≤ bs.length ∧ bs.length ≤ 3 + i ∧ (∀ b ∈ bs, BoxGood fs b) ∧ S' = S.set k (lp, q.D) ++ [(lb, .lst (bs.map boxT))] ∧ ρ = [some (.ref lp), some (.lst (fs.map fieldD)), some (.lst (hs.map partD)), some v, some (.ref lb), none, none, v7, none, none, none, none]) PassesOwn.never rfl
    (by exact di_range1 (j := 3) rfl b.range dx_int (by decide) (by decide)) ⟨p, bs, _, ps.ok, b2, by omega, hbs, rfl, rfl⟩ ?_ ?_
  · rintro B' hB i x ρ' S' hx ⟨q, bs, v7, qok, b2, b3, hbs, rfl, rfl⟩
    obtain ⟨hi, rfl⟩ := rng_get hx
    have hi : i < 3 := hi
    refine ⟨_, _, dg_name 7 sc_law_boxes.nd, ?_⟩
    refine qs_apE (Q := fun d S' => ∃ xs, d = .tup xs ∧ ∃ (hs' : List (List Str)) (q' : Pool), q'.Ok ∧ HidOk fs hs' ∧ xs = hs'.map (fun h => fieldD (srt h)) ∧ S' = S.set k (lp, q'.D) ++ [(lb, .lst (bs.map boxT))]) (dx_var 4 rfl) ?he ⟨_, mem_last⟩ ?_
    case he =>
      refine de_tupleE b.tuple rfl ?_
      refine de_lcP (own := [("part", 6)]) (R := fun xs S' => ∃ (hs' : List (List Str)) (q' : Pool), q'.Ok ∧ HidOk fs hs' ∧ xs = hs'.map partD ∧ S' = S.set k (lp, q'.D) ++ [(lb, .lst (bs.map boxT))]) rfl sc_law_boxes.nd (dip_lst (Q := fun d S' => ∃ (hs' : List (List Str)) (q' : Pool), q'.Ok ∧ HidOk fs hs' ∧ d = .lst (hs'.map partD) ∧ S' = S.set k (lp, q'.D) ++ [(lb, .lst (bs.map boxT))]) (de_call hhi (hr.mono (by omega)) rfl pass0 (da_cons (dx_var 0 rfl) (da_cons (dx_var 1 rfl) da_nil)) ⟨lp, k, q, fs, rfl, lp_of q _ qok, hfl, f6, fun hs' q' ok' hh => ⟨hs', q', ok', hh, rfl, set_of _ _ _⟩⟩) fun d S' ⟨hs', q', ok', hh, e1, e2⟩ => ⟨_, e1, hs', q', ok', hh, rfl, e2⟩) (blkOk_by (own := [("part", 6)]) (N := ["pool", "fields", "hidden", "least", "boxes", "field", "part", "k", "box", "at", "more", "mark"]) (sc := defScope s_law_boxes) (by decide +kernel)) ?_
      rintro xs S' ⟨hs', q', ok', hh, rfl, e2⟩
      have ⟨a6, a7⟩ := hidL hs' hh
      refine ⟨fun j acc S2 => acc = ((hs'.take j).filter fun _ => true).map (fun h => fieldD (srt h)) ∧ S2 = S', LcF.ok (its := hs') (f := partD) (p := fun _ => true) (g := fun h => fieldD (srt h)) ⟨fun j h hj hm => ?_⟩ (by omega) (fun _ _ => trivial), ?_⟩
      · have u6 := a7 h hm
        refine ⟨_, _, ?_, fun s H C cl fp => dg_name 6 sc_law_boxes.nd, fun s H C cl fp B' L acc hB' => dts_nil, fun _ s H C cl fp B' L acc hB' => dx_tuple b.tuple rfl (DN.dx (dn_srt b.sorted rfl (dx_var 6 rfl) (.inl Vw.rfl') (by omega))) (.inl Vw.rfl')⟩
        intro j hj; simpa using hj
      · rintro acc S2 l ⟨e3, e4⟩
        rw [List.length_map, List.take_length, List.filter_eq_self.mpr fun _ _ => rfl] at e3
        exact ⟨l, acc, S2, rfl, rfl, hs', q', ok', hh, e3, by rw [e4, e2]⟩
    rintro d S2 ⟨xs, rfl, hs', q', ok', hh, rfl, rfl⟩
    have eb : D.tup (hs'.map fun h => fieldD (srt h)) = boxT (hs'.map srt) := by unfold boxT; rw [List.map_map]; rfl
    rw [eb]
    refine ⟨S.length, bs.map boxT, at_b _ _, by rw [List.length_map]; omega, qs_nil ⟨q', bs ++ [hs'.map srt], _, ok', by rw [List.length_append]; omega, by rw [List.length_append]; show bs.length + 1 ≤ _; omega, fun x hx => ?_, by rw [set_b, app_bs], rfl⟩⟩
    rcases List.mem_append.mp hx with z | z
    · exact hbs x z
    · rw [List.mem_singleton.mp z]; exact hidG _ hh
  rintro ρ2 S2 ⟨q, bs, v7, qok, b2, b3, hbs, rfl, rfl⟩
  have b3 : bs.length ≤ 6 := b3
  -- one Name more, one less
  refine qs_for (V := fun _ => True) (xs := bs.map boxT) (fun i ρ S' => ∃ (q : Pool) (bs' : List (List (List Str))) (v6 v8 v9 v10 : Option D), q.Ok ∧ 2 ≤ bs'.length ∧ bs'.length ≤ 6 + 2 * i ∧ (∀ b ∈ bs', BoxGood fs b) ∧ S' = S.set k (lp, q.D) ++ [(lb, .lst (bs'.map boxT))] ∧ ρ = [some (.ref lp), some (.lst (fs.map fieldD)), some (.lst (hs.map partD)), some v, some (.ref lb), none, v6, v7, v8, v9, v10, none]) PassesOwn.never rfl
    (di_lst (DX.cast (DN.dx (dn_slice (dx_var 4 rfl) do_none do_none (Vw.own mem_last))) (by rw [cutD_whole ⟨rfl, rfl⟩]) rfl)) ⟨q, bs, _, _, _, _, qok, b2, by omega, hbs, rfl, rfl⟩ ?_ ?_
  · rintro B' hB i x ρ' S' hx ⟨q, bs', v6, v8, v9, v10, qok, c2, c3, hbs', rfl, rfl⟩
    have hi : i < 6 := by have := (List.getElem?_eq_some_iff.mp hx).1; rw [List.length_map] at this; omega
    rw [List.getElem?_map] at hx
    obtain ⟨bx, hbx, rfl⟩ := Option.map_eq_some_iff.mp hx
    have good := hbs bx (List.mem_of_getElem? hbx)
    have lenB : (bx.map fieldD).length = fs.length := by rw [List.length_map, good.len]
    refine ⟨_, _, dg_name 8 sc_law_boxes.nd, ?_⟩
    obtain ⟨e0, e1⟩ := q.drw_in (m := (fs.length : Int)) (by omega)
    obtain ⟨us, hus, hus2⟩ := atI_map fieldD e0 e1
    obtain ⟨pt, hpt, hpt2⟩ := atI_map fieldD (xs := bx) (r := q.drw (fs.length : Int)) e0 (by rw [good.len]; exact e1)
    have pok := good.part _ us pt hus hpt
    refine qs_asg 9 sc_law_boxes.nd (dx_draw hd (hr.mono (by omega)) (lp_of q _ qok) (dx_var 0 rfl) (dx_lenL b.len rfl (dx_var 1 rfl) Vw.rfl') ⟨by rw [lenF]; omega, by rw [lenF]; omega⟩) ?_
    rw [set_of]
    simp only [lenF]
    have qok2 : (q.nxt (fs.length : Int)).Ok := qok.nxt (m := (fs.length : Int)) (by omega)
    obtain ⟨a, ha⟩ : ∃ a : Nat, q.drw (fs.length : Int) = (a : Int) := ⟨(q.drw (fs.length : Int)).toNat, by omega⟩
    rw [ha] at e0 e1 hus hus2 hpt hpt2 ⊢
    rw [Int.toNat_natCast] at hus hpt
    generalize q.nxt (fs.length : Int) = q at qok2
    obtain ⟨us0, us6, und⟩ := hfs us (List.mem_of_getElem? hus)
    have p6 : pt.length ≤ 6 := Nat.le_trans (nd_len pok.nd pok.sub) us6
    have hab : a < bx.length := by rw [good.len]; omega
    have hab2 : a < (bx.map fieldD).length := by rw [lenB]; omega
    have cut : ∀ x : List Str, D.tup (DL.cutD (bx.map fieldD) none (some (a : Int)) ++ [fieldD x] ++ DL.cutD (bx.map fieldD) (some ((a : Int) + 1)) none) = boxT (bx.set a x) := fun x => by
      rw [set_cut hab2]; unfold boxT; rw [List.map_set]
    have cutL : (DL.cutD (bx.map fieldD) none (some (a : Int))).length ≤ 6 ∧ (DL.cutD (bx.map fieldD) (some ((a : Int) + 1)) none).length ≤ 6 := by
      rw [cutD_hi, show (a : Int) + 1 = ((a + 1 : Nat) : Int) by omega, cutD_lo, List.length_take, List.length_drop, lenB]
      omega
    refine qs_asgLcf (V := fun _ => True) (own := [("mark", 11)]) 10 us D.str (fun t => !decide (t ∈ pt)) D.str rfl sc_law_boxes.nd (di_tup (dx_ixL (dx_var 1 rfl) (dx_var 9 rfl) Vw.rfl' hus2)) (blkOk_by (own := [("mark", 11)]) (N := ["pool", "fields", "hidden", "least", "boxes", "field", "part", "k", "box", "at", "more", "mark"]) (sc := defScope s_law_boxes) (by decide +kernel)) (by omega) (fun _ _ => trivial) ⟨fun j t hj hm => ?_⟩ (fun lm => ?_)
    · refine ⟨_, _, ?_, fun s H C cl fp => dg_name 11 sc_law_boxes.nd, fun s H C cl fp B' L acc hB' => dts_one (dt_ninTs (ts := pt) (dx_var 11 rfl) (dx_ixT (dx_var 8 rfl) (dx_var 9 rfl) hpt2) (.inr rfl)), fun _ s H C cl fp B' L acc hB' => (dx_var 11 rfl)⟩
      intro j hj; simpa using hj
    refine dss_cv (Cv.froz (i := 10) rfl) ?_
    have mm6 : (us.filter fun t => !decide (t ∈ pt)).length ≤ 6 := Nat.le_trans (List.length_filter_le _ _) us6
    have mmem : ∀ t ∈ us.filter fun t => !decide (t ∈ pt), t ∈ us ∧ ¬ t ∈ pt := fun t ht => by
      obtain ⟨h1, h2⟩ := List.mem_filter.mp ht
      exact ⟨h1, by simpa using h2⟩
    generalize us.filter (fun t => !decide (t ∈ pt)) = mo at mm6 mmem
    have lenM : (mo.map D.str).length = mo.length := List.length_map _
    refine qs_ifJ (fun ρ S' => ∃ (q : Pool) (bs' : List (List (List Str))) (v6 : Option D), q.Ok ∧ 2 ≤ bs'.length ∧ bs'.length ≤ 6 + 2 * i + 1 ∧ (∀ b ∈ bs', BoxGood fs b) ∧ S' = S.set k (lp, q.D) ++ [(lb, .lst (bs'.map boxT))] ∧ ρ = [some (.ref lp), some (.lst (fs.map fieldD)), some (.lst (hs.map partD)), some v, some (.ref lb), none, v6, v7, some (boxT bx), some (.int (a : Int)), some (.lst (mo.map D.str)), none]) (dt_gt (dx_lenL b.len rfl (dx_var 10 rfl) Vw.rfl') dx_int) (fun e => ?_) (fun _ => qs_nil ⟨q, bs', v6, qok2, c2, by omega, hbs', rfl, rfl⟩) ?_
    · have m0 : 0 < mo.length := by have := of_decide_eq_true e; rw [lenM] at this; omega
      obtain ⟨g0, g1⟩ := q.drw_in (m := (mo.length : Int)) (by omega)
      obtain ⟨t, ht, ht2⟩ := atI_map D.str g0 g1
      have tm := mmem t (List.mem_of_getElem? ht)
      have lenP : (pt.map D.str).length = pt.length := List.length_map _
      have ec : pt.map D.str ++ [D.str t] = (pt ++ [t]).map D.str := by rw [List.map_append]; rfl
      refine qs_asg 6 (d := fieldD (srt (pt ++ [t]))) (S' := S.set k (lp, (q.nxt (mo.length : Int)).D) ++ [(lb, .lst (bs'.map boxT))]) sc_law_boxes.nd (dx_tuple b.tuple rfl (DN.dx (dn_srt (ss := pt ++ [t]) b.sorted rfl (DX.cast (DN.dx (dn_catL (DN.dx (dn_list b.list rfl (dx_ixT (dx_var 8 rfl) (dx_var 9 rfl) hpt2) (.inr rfl))) (DN.dx (dn_lst (da_cons (dx_ixL (dx_var 10 rfl) (dx_draw hd (hr.mono (by omega)) (lp_of q _ qok2) (dx_var 0 rfl) (dx_lenL b.len rfl (dx_var 10 rfl) Vw.rfl') ⟨by rw [lenM]; omega, by rw [lenM]; omega⟩) Vw.rfl' (by rw [lenM]; exact ht2)) da_nil) (Nat.le_of_ble_eq_true rfl))) Vw.rfl' Vw.rfl' (by rw [lenP]; show pt.length + 1 ≤ _; omega))) (by rw [ec]) (by rw [set_of, lenM])) (.inl Vw.rfl') (by rw [List.length_append]; show pt.length + 1 < 64; omega))) (.inl Vw.rfl')) ?_
      have qok3 := qok2.nxt (m := (mo.length : Int)) (by omega)
      have pok2 : PartOk us (srt (pt ++ [t])) := PartOk.srt (by simp) (List.nodup_append.mpr ⟨pok.nd, by simp, fun x hx y hy z => by rw [List.mem_singleton.mp hy] at z; rw [z] at hx; exact tm.2 hx⟩) fun x hx => by
        rcases List.mem_append.mp hx with z | z
        · exact pok.sub x z
        · rw [List.mem_singleton.mp z]; exact tm.1
      refine qs_ap (n := S.length) (d := boxT (bx.set a (srt (pt ++ [t])))) (xs := bs'.map boxT) (dx_var 4 rfl) (DX.cast (dx_catT (dx_catT (dx_slice (dx_var 8 rfl) do_none (do_some (dx_var 9 rfl))) (dx_tup (da_cons (dx_var 6 rfl) da_nil) (Nat.le_of_ble_eq_true rfl)) (by have := cutL.1; show _ + 1 ≤ 100000; omega)) (dx_slice (dx_var 8 rfl) (do_some (dx_add (dx_var 9 rfl) dx_int)) do_none) (by have := cutL; rw [List.length_append]; show _ + 1 + _ ≤ 100000; omega)) (cut _) rfl) ⟨_, mem_last⟩ (at_b _ _) (by rw [List.length_map]; omega) (qs_nil ⟨_, bs' ++ [bx.set a (srt (pt ++ [t]))], _, qok3, by rw [List.length_append]; omega, by rw [List.length_append]; show bs'.length + 1 ≤ _; omega, fun x hx => ?_, by rw [set_b, app_bs], rfl⟩)
      rcases List.mem_append.mp hx with z | z
      · exact hbs' x z
      · rw [List.mem_singleton.mp z]; exact good.set hus pok2
    rintro ρ3 S3 ⟨q, bs', v6, qok, c2, c3, hbs', rfl, rfl⟩
    refine qs_if (dt_gt (dx_lenT b.len rfl (dx_ixT (dx_var 8 rfl) (dx_var 9 rfl) hpt2)) dx_int) (fun e => ?_) (fun _ => qs_nil (qs_nil ⟨q, bs', _, _, _, _, qok, c2, by omega, hbs', rfl, rfl⟩))
    have p1 : 1 < pt.length := by have := of_decide_eq_true e; rw [List.length_map] at this; omega
    have lenP : (pt.map D.str).length = pt.length := List.length_map _
    refine qs_asgN 6 sc_law_boxes.nd (dn_list b.list rfl (dx_ixT (dx_var 8 rfl) (dx_var 9 rfl) hpt2) (.inr rfl)) fun lpt => ?_
    obtain ⟨g0, g1⟩ := q.drw_in (m := (pt.length : Int)) (by omega)
    refine qs_pop (n := S.length + 1) (j := (q.drw (pt.length : Int)).toNat) (i := q.drw (pt.length : Int)) (xs := pt.map D.str) (S2 := S.set k (lp, (q.nxt (pt.length : Int)).D) ++ [(lb, .lst (bs'.map boxT))] ++ [(lpt, .lst (pt.map D.str))]) (dx_var 6 rfl) (DX.cast (dx_draw hd (hr.mono (by omega)) (lp_of2 q _ _ qok) (dx_var 0 rfl) (dx_lenL b.len rfl (dx_var 6 rfl) (Vw.own mem_last)) ⟨by rw [lenP]; omega, by rw [lenP]; omega⟩) (by rw [lenP]) (by rw [set_of2, lenP])) ⟨_, mem_last⟩ (at_c _ _ _) ⟨g0, by rw [lenP]; exact g1⟩ rfl (by rw [lenP]; omega) ?_
    rw [set_c]
    have qok3 := qok.nxt (m := (pt.length : Int)) (by omega)
    generalize hjj : (q.drw (pt.length : Int)).toNat = jj
    have hjl : jj < pt.length := by omega
    have sub := List.eraseIdx_sublist pt jj
    have pok2 : PartOk us (pt.eraseIdx jj) := ⟨fun z => by have := congrArg List.length z; rw [List.length_eraseIdx, if_pos hjl] at this; simp at this; omega, pok.asc.sublist sub, pok.nd.sublist sub, fun t ht => pok.sub t (sub.subset ht)⟩
    have ee : (pt.map D.str).eraseIdx jj = (pt.eraseIdx jj).map D.str := by exact erase_map _ _ _
    rw [ee]
    refine qs_ap (n := S.length) (d := boxT (bx.set a (pt.eraseIdx jj))) (xs := bs'.map boxT) (dx_var 4 rfl) (DX.cast (dx_catT (dx_catT (dx_slice (dx_var 8 rfl) do_none (do_some (dx_var 9 rfl))) (dx_tup (da_cons (dx_tuple b.tuple rfl (dx_var 6 rfl) (.inl (Vw.own mem_last))) da_nil) (Nat.le_of_ble_eq_true rfl)) (by have := cutL.1; show _ + 1 ≤ 100000; omega)) (dx_slice (dx_var 8 rfl) (do_some (dx_add (dx_var 9 rfl) dx_int)) do_none) (by have := cutL; rw [List.length_append]; show _ + 1 + _ ≤ 100000; omega)) (cut _) rfl) ⟨_, memOf (at_b2 _ _ _)⟩ (at_b2 _ _ _) (by rw [List.length_map]; omega) (dss_cv (Cv.sub (S' := S.set k (lp, (q.nxt (pt.length : Int)).D) ++ [(lb, .lst ((bs' ++ [bx.set a (pt.eraseIdx jj)]).map boxT))]) ?_) (qs_nil (qs_nil ⟨_, bs' ++ [bx.set a (pt.eraseIdx jj)], _, _, _, _, qok3, by rw [List.length_append]; omega, by rw [List.length_append]; show bs'.length + 1 ≤ _; omega, fun x hx => ?_, rfl, rfl⟩)))
    · rw [set_b2, app_bs]
      exact List.sublist_append_left _ _
    · rcases List.mem_append.mp hx with z | z
      · exact hbs' x z
      · rw [List.mem_singleton.mp z]; exact good.set hus pok2
  · rintro ρ3 S3 ⟨q, bs', v6, v8, v9, v10, qok, c2, c3, hbs', rfl, rfl⟩
    rw [List.length_map] at c3
    exact qs_ret (dx_var 4 rfl) ⟨_, _, Fz.last, hQ bs' q qok c2 (by omega) hbs'⟩
end
end SB
set_option Elab.async false
set_option linter.all false
set_option maxRecDepth 100000
set_option maxHeartbeats 1000000
namespace SB
open PySem PySem.Spec PyProof.Rows L2 DL
/-! ### boxes of another form -/
def strangeS : Str := "Not_a_Name_of_any_field_that_is_drawn_as_it_is_longer_than_all_of_them"
theorem strange_ok : PyData.strOk strangeS = true := by decide +kernel
theorem strange_new {us : List Str} (h : FieldOk 6 us) : ¬ strangeS ∈ us := fun z => by
  have a := h.nm.len _ z
  have c := nb_mono h.nm.six
  have e : strangeS.length = 70 := by decide +kernel
  omega
def OddD (fs : List (List Str)) (x : D) : Prop := (x = .non ∨ ∃ i, x = .int i) ∨ ∃ ps, x = boxT ps ∧ (∀ p ∈ ps, ∀ t ∈ p, PyData.strOk t = true) ∧ boxOkB fs ps = false
theorem oddLen {fs ps : List (List Str)} (h : ps.length ≠ fs.length) : boxOkB fs ps = false := by
  cases e : boxOkB fs ps with
  | false => rfl
  | true => exact absurd (boxOkB_len e) h
section
variable {P : Program} {w : World} {K : PySem.W.Frag} {mg : Str → Option Value} {base : Heap} {T : List Addr}
abbrev s_law_odd : Stmt := top 56
theorem sc_law_odd : FnScope ["fields", "box", "strange", "odd"] ["fields", "box", "strange"] (defScope s_law_odd) := ⟨rfl, rfl, rfl, by decide +kernel, rfl, by decide +kernel, by decide +kernel⟩
-- fields=0 box=1 strange=2 odd=3
def F_lawOdd : FT := fun ds S P _ => ∃ (fs ps : List (List Str)), ds = [.lst (fs.map fieldD), boxT ps, .str strangeS] ∧ 1 ≤ fs.length ∧ fs.length ≤ 6 ∧ (∀ us ∈ fs, FieldOk 6 us) ∧ BoxGood fs ps ∧ ∀ L : List D, (∀ x ∈ L, OddD fs x) → P (.lst L) S
theorem fd_lawOdd {f : Addr} {fd : FuncData} (F : Fun K "_law_odd" "_law_odd" s_law_odd f fd) (b : BI mg) (hb : Binds K fd ["fields", "box", "strange"] []) : FD P w K mg base T CX0 1 f fd ["fields", "box", "strange"] F_lawOdd := by
  refine fd_d F sc_law_odd hb (fun ds S P PX h => by obtain ⟨_, _, rfl, _⟩ := h; rfl) (fun cdv A outer st H E B ds S Q PX hr hF => ?_)
  obtain ⟨fs, ps, rfl, f1, f6, hf, good, hQ⟩ := hF
  have gl := good.len
  have lenB : (ps.map fieldD).length = ps.length := List.length_map _
  obtain ⟨us, hus⟩ : ∃ us, fs[0]? = some us := ⟨_, List.getElem?_eq_getElem (by omega)⟩
  obtain ⟨p, hp⟩ : ∃ p, ps[0]? = some p := ⟨_, List.getElem?_eq_getElem (by omega)⟩
  have pok := good.part 0 us p hus hp
  have fok := hf us (List.mem_of_getElem? hus)
  have p6 : p.length ≤ 6 := Nat.le_trans (nd_len pok.nd pok.sub) fok.nm.six
  have okT : ∀ q ∈ ps, ∀ t ∈ q, PyData.strOk t = true := fun q hq t ht => by
    obtain ⟨i, hi⟩ := List.getElem?_of_mem hq
    have hlt : i < fs.length := by rw [← gl]; exact (List.getElem?_eq_some_iff.mp hi).1
    have hu := List.getElem?_eq_getElem hlt
    exact strOk_great ((hf _ (List.getElem_mem hlt)).nm.gr t ((good.part i _ q hu hi).sub t ht))
  have okP : ∀ t ∈ p, PyData.strOk t = true := okT p (List.mem_of_getElem? hp)
  have ix0 : atI (ps.map fieldD) 0 = some (fieldD p) := by
    unfold atI ixN
    rw [lenB, if_pos (by omega), if_pos (by omega)]
    show (ps.map fieldD)[0]? = _
    rw [List.getElem?_map, hp]; rfl
  have d1 : DL.cutD (ps.map fieldD) (some 1) none = (ps.drop 1).map fieldD := by
    rw [show (1 : Int) = ((1 : Nat) : Int) from rfl, cutD_lo, List.map_drop]
  have l1 : (DL.cutD (ps.map fieldD) (some 1) none).length ≤ 6 := by rw [d1, List.length_map, List.length_drop]; omega
  have lt : (DL.cutD (ps.map fieldD) none (some ((ps.length : Int) - 1))).length ≤ 6 ∧ DL.cutD (ps.map fieldD) none (some ((ps.length : Int) - 1)) = (ps.take (ps.length - 1)).map fieldD := by
    rw [show (ps.length : Int) - 1 = ((ps.length - 1 : Nat) : Int) by omega, cutD_hi, List.map_take]
    exact ⟨by rw [List.length_take, lenB]; omega, rfl⟩
  have lenp : (p.map D.str).length = p.length := List.length_map _
  refine qs_asgN 3 sc_law_odd.nd (dn_lst (da_cons dx_non (da_cons dx_int (da_cons (dx_slice (dx_var 1 rfl) (do_some dx_int) do_none) (da_cons (dx_catT (dx_var 1 rfl) (dx_tup (da_cons (dx_ixT (dx_var 1 rfl) dx_int ix0) da_nil) (Nat.le_of_ble_eq_true rfl)) (by rw [lenB]; show ps.length + 1 ≤ _; omega)) (da_cons (dx_catT (dx_tup (da_cons (dx_tup da_nil (Nat.le_of_ble_eq_true rfl)) da_nil) (Nat.le_of_ble_eq_true rfl)) (dx_slice (dx_var 1 rfl) (do_some dx_int) do_none) (by show 1 + _ ≤ _; omega)) (da_cons (dx_tup da_nil (Nat.le_of_ble_eq_true rfl)) da_nil)))))) (Nat.le_of_ble_eq_true rfl)) fun lo => ?_
  have ec : p.map D.str ++ [D.str strangeS] = (p ++ [strangeS]).map D.str := by rw [List.map_append]; rfl
  refine qs_ap (n := S.length) (dx_var 3 rfl) (dx_catT (dx_tup (da_cons (dx_tuple b.tuple rfl (DN.dx (dn_srt (ss := p ++ [strangeS]) b.sorted rfl (DX.cast (DN.dx (dn_catL (DN.dx (dn_list b.list rfl (dx_ixT (dx_var 1 rfl) dx_int ix0) (.inr rfl))) (DN.dx (dn_lst (da_cons (dx_var 2 rfl) da_nil) (Nat.le_of_ble_eq_true rfl))) Vw.rfl' Vw.rfl' (by rw [lenp]; show p.length + 1 ≤ _; omega))) (by rw [ec]) rfl) (.inl Vw.rfl') (by rw [List.length_append]; show p.length + 1 < _; omega))) (.inl Vw.rfl')) da_nil) (Nat.le_of_ble_eq_true rfl)) (dx_slice (dx_var 1 rfl) (do_some dx_int) do_none) (by show 1 + _ ≤ _; omega)) ⟨_, mem_last⟩ at_last (by show 6 < _; decide) ?_
  rw [set_last]
  refine qs_ap (n := S.length) (dx_var 3 rfl) (dx_catT (dx_slice (dx_var 1 rfl) do_none (do_some (dx_sub (dx_lenT b.len rfl (dx_var 1 rfl)) dx_int))) (dx_tup (da_cons (dx_tup (da_cons (dx_var 2 rfl) da_nil) (Nat.le_of_ble_eq_true rfl)) da_nil) (Nat.le_of_ble_eq_true rfl)) (by rw [lenB]; show _ + 1 ≤ _; have := lt.1; omega)) ⟨_, mem_last⟩ at_last (by show 7 < _; decide) ?_
  rw [set_last]
  refine qs_ret (dx_var 3 rfl) ⟨_, _, Fz.last, hQ _ ?_⟩
  intro x hx
  simp only [List.cons_append, List.nil_append, List.mem_cons, List.not_mem_nil, or_false] at hx
  rcases hx with rfl | rfl | rfl | rfl | rfl | rfl | rfl | rfl
  · exact .inl (.inl rfl)
  · exact .inl (.inr ⟨3, rfl⟩)
  · exact .inr ⟨ps.drop 1, by rw [d1]; rfl, fun q hq => okT q (List.mem_of_mem_drop hq), oddLen (by rw [List.length_drop]; omega)⟩
  · exact .inr ⟨ps ++ [p], by unfold boxT; rw [List.map_append]; rfl, fun q hq => (List.mem_append.mp hq).elim (okT q) fun z => by rw [List.mem_singleton.mp z]; exact okP, oddLen (by rw [List.length_append]; show ps.length + 1 ≠ _; omega)⟩
  · exact .inr ⟨[] :: ps.drop 1, by rw [d1]; rfl, fun q hq => (List.mem_cons.mp hq).elim (fun z t ht => by rw [z] at ht; cases ht) fun z => okT q (List.mem_of_mem_drop z), boxOkB_not hus rfl (.inl rfl)⟩
  · exact .inr ⟨[], rfl, fun q hq => (by cases hq), oddLen (by show 0 ≠ _; omega)⟩
  · refine .inr ⟨srt (p ++ [strangeS]) :: ps.drop 1, ?_, fun q hq => (List.mem_cons.mp hq).elim (fun z t ht => ?_) fun z => okT q (List.mem_of_mem_drop z), boxOkB_not hus rfl (.inr fun z => ?_)⟩
    · rw [d1]
      rfl
    · rw [z] at ht
      rcases List.mem_append.mp (srt_mem.mp ht) with z | z
      · exact okP t z
      · rw [List.mem_singleton.mp z]; exact strange_ok
    · have h1 : strangeS ∈ srt (p ++ [strangeS]) := srt_mem.mpr (by simp)
      rw [z] at h1
      exact strange_new fok (srt_mem.mp (List.mem_filter.mp h1).1)
  · obtain ⟨us', hus'⟩ : ∃ us, fs[fs.length - 1]? = some us := ⟨_, List.getElem?_eq_getElem (by omega)⟩
    refine .inr ⟨ps.take (ps.length - 1) ++ [[strangeS]], ?_, fun q hq => (List.mem_append.mp hq).elim (fun z => okT q (List.mem_of_mem_take z)) fun z t ht => ?_, boxOkB_not hus' (p := [strangeS]) ?_ (.inr fun z => ?_)⟩
    · rw [lenB, lt.2]; unfold boxT; rw [List.map_append]; rfl
    · rw [List.mem_singleton.mp z] at ht
      rw [List.mem_singleton.mp ht]; exact strange_ok
    · rw [List.getElem?_append_right (by rw [List.length_take]; omega), List.length_take, show fs.length - 1 - min (ps.length - 1) ps.length = 0 by omega]
      rfl
    · have h1 : strangeS ∈ [strangeS] := by simp
      rw [z] at h1
      exact strange_new (hf us' (List.mem_of_getElem? hus')) (srt_mem.mp (List.mem_filter.mp h1).1)
end
end SB
set_option Elab.async false
set_option linter.all false
set_option maxRecDepth 100000
set_option maxHeartbeats 1000000
namespace SB
open PySem PySem.Spec PyProof.Rows L2 DL
section
/-! ### the law -/
variable {P : Program} {w : World} {K : PySem.W.Frag} {mg : Str → Option Value} {base : Heap} {T : List Addr}
theorem dueLeast_same {fs : List (List Str)} {rs : List (List Str × Int)} (f6 : fs.length ≤ 6) (h12 : rs.length ≤ 12) : SameD 2 (dueLeast fs rs) := by
  unfold dueLeast
  split
  · exact .non 2
  · refine .tup 1 _ (fun x hx => ?_) (by rw [List.length_map]; unfold leastP; rw [List.length_map, List.length_range]; omega)
    obtain ⟨p, hp, rfl⟩ := List.mem_map.mp hx
    unfold leastP at hp
    obtain ⟨k, _, rfl⟩ := List.mem_map.mp hp
    refine SameD.strs 0 (Nat.le_trans (sset_len _) ?_)
    rw [List.length_map]
    unfold onesT
    rw [List.length_map]
    have := List.length_filter_le (fun r : List Str × Int => decide (r.2 = 1)) rs
    omega
theorem good_great {fs ps : List (List Str)} (hf : ∀ us ∈ fs, FieldOk 6 us) (good : BoxGood fs ps) : ∀ q ∈ ps, ∀ t ∈ q, PyData.strOk t = true := fun q hq t ht => by
  obtain ⟨i, hi⟩ := List.getElem?_of_mem hq
  have hlt : i < fs.length := by rw [← good.len]; exact (List.getElem?_eq_some_iff.mp hi).1
  have hu := List.getElem?_eq_getElem hlt
  exact strOk_great ((hf _ (List.getElem_mem hlt)).nm.gr t ((good.part i _ q hu hi).sub t ht))
abbrev s_law : Stmt := top 57
theorem sc_law : FnScope ["script", "pool", "fields", "hidden", "rows", "strange", "part", "row", "least", "due", "handed", "box"] ["script"] (defScope s_law) := ⟨rfl, rfl, rfl, by decide +kernel, rfl, by decide +kernel, by decide +kernel⟩
-- script=0 pool=1 fields=2 hidden=3 rows=4 strange=5 part=6 row=7 least=8 due=9 handed=10 box=11
def F_law : FT := fun ds S P _ => ∃ ns : List Int, ds = [.lstQ (ns.map D.int)] ∧ ns.length ≤ 63 ∧ P (.bl true) S
theorem fd_law {f : Addr} {fd : FuncData} (F : Fun K "law" "law" s_law f fd) (b : BI mg) (hpool : FN P w K mg base T CX0 1 "_law_pool" ["script"] F_pool) (hd : FN P w K mg base T CX0 1 "_law_draw" ["pool", "many"] F_draw) (hfi : FN P w K mg base T CX0 3 "_law_fields" ["pool", "count", "most"] F_fields)
    (hhi : FN P w K mg base T CX0 2 "_law_hidden" ["pool", "fields"] F_hidden) (hro : FN P w K mg base T CX0 2 "_law_rows" ["pool", "fields", "box", "many"] F_rows) (hha : FN P w K mg base T CX0 1 "_law_has" ["box", "thing"] F_has) (hle : FN P w K mg base T CX0 1 "_law_least" ["fields", "rows"] F_lawLeast)
    (hft : FN P w K mg base T CX0 2 "_law_fits" ["box", "rows"] F_fitsT) (hsa : ∀ n, FN P w K mg base T CX0 (n + 1) "_law_same" ["got", "due"] (F_same n)) (hlb : FN P w K mg base T CX0 8 "least_box" ["fields", "told"] F_least) (hlk : FNK P w K mg base T CX0 8 "least_box" ["told", "fields"] [1, 0] F_least)
    (hbx : FN P w K mg base T CX0 3 "_law_boxes" ["pool", "fields", "hidden", "least"] F_lawBoxes) (hod : FN P w K mg base T CX0 1 "_law_odd" ["fields", "box", "strange"] F_lawOdd) (hju : FN P w K mg base T CX0 8 "judge_box" ["fields", "told", "box"] F_judge)
    (hb : Binds K fd ["script"] []) : FD P w K mg base T CX0 9 f fd ["script"] F_law := by
  refine fd_d F sc_law hb (fun ds S P PX h => by obtain ⟨_, rfl, _⟩ := h; rfl) (fun cdv A outer st H E B ds S Q PX hr hF => ?_)
  obtain ⟨ns, rfl, h63, hQ⟩ := hF
  have rom64 : A.units + 3 + 64 < cLine := by have := hr.un; exact Nat.lt_of_le_of_lt (by show A.units + 3 + 64 ≤ (A.units + 3) + 16 * 8 + 200; omega) this
  refine qs_asgE 1 sc_law.nd (de_call hpool (hr.mono (by omega)) rfl pass0 (da_cons (dx_var 0 rfl) da_nil) ⟨ns, rfl, h63, fun l p ok => ⟨l, p, ok, rfl, rfl⟩⟩ (P := fun d S' => ∃ l p, Pool.Ok p ∧ d = .ref l ∧ S' = S ++ [(l, p.D)])) ?_
  rintro d1 S1 ⟨lp, p, ok, rfl, rfl⟩
  have at0 : ∀ q : Pool, q.Ok → PS (S ++ [(lp, q.D)]) S.length lp q := fun q ok => ⟨ok, at_last⟩
  have sets : ∀ q q' : Pool, (S ++ [(lp, q.D)]).set S.length (lp, q'.D) = S ++ [(lp, q'.D)] := fun q q' => set_last
  obtain ⟨n0, n3⟩ := p.drw_in (m := 6) (by decide)
  refine qs_asgE 2 (Q := fun d S' => ∃ (fs : List (List Str)) (q : Pool), q.Ok ∧ fs.length = (1 + p.drw 6).toNat ∧ (∀ us ∈ fs, FieldOk 6 us) ∧ d = .lst (fs.map fieldD) ∧ S' = S ++ [(lp, q.D)]) sc_law.nd (de_call hfi (hr.mono (by omega)) rfl pass0 (da_cons (dx_var 1 rfl) (da_cons (dx_add dx_int (dx_draw hd (hr.mono (by omega)) (at0 p ok) (dx_var 1 rfl) dx_int (by decide))) (da_cons dx_int da_nil))) ⟨lp, S.length, p.nxt 6, (1 + p.drw 6).toNat, 6, ?_, ?_, by omega, by decide, by decide, fun fs q ok hl hf => ⟨fs, q, ok, hl, hf, rfl, ?_⟩⟩) ?_
  · rw [show (((1 + p.drw 6).toNat : Nat) : Int) = 1 + p.drw 6 by omega]; rfl
  · rw [sets]; exact at0 _ (ok.nxt (by decide))
  · rw [sets, sets]
  rintro d2 S2 ⟨fs, q0, ok0, hl, hf6, rfl, rfl⟩
  have f1 : 1 ≤ fs.length := by omega
  have f6 : fs.length ≤ 6 := by omega
  have hfl : ∀ us ∈ fs, us ≠ [] ∧ us.length ≤ 6 := fun us hu => ⟨fun z => by have := (hf6 us hu).two; rw [z] at this; simp at this, (hf6 us hu).most⟩
  have hfd : ∀ us ∈ fs, us.Nodup := fun us hu => (hf6 us hu).nm.nd
  have hfl3 : ∀ us ∈ fs, us ≠ [] ∧ us.length ≤ 6 ∧ us.Nodup := fun us hu => ⟨(hfl us hu).1, (hfl us hu).2, hfd us hu⟩
  have fs0 : fs ≠ [] := fun z => by rw [z] at f1; simp at f1
  refine qs_asgE 3 (Q := fun d S' => ∃ (hs : List (List Str)) (q1 : Pool), q1.Ok ∧ HidOk fs hs ∧ d = .lst (hs.map partD) ∧ S' = S ++ [(lp, q1.D)]) sc_law.nd (de_call hhi (hr.mono (by omega)) rfl pass0 (da_cons (dx_var 1 rfl) (da_cons (dx_var 2 rfl) da_nil)) ⟨lp, S.length, q0, fs, rfl, at0 q0 ok0, hfl, f6, fun hs q1 ok1 hh => ⟨hs, q1, ok1, hh, rfl, sets _ _⟩⟩) ?_
  rintro d3 S3 ⟨hs, p2, ok2, hh, rfl, rfl⟩
  have h6 : hs.length ≤ 6 := by rw [hh.len]; exact f6
  obtain ⟨m0, m13⟩ := p2.drw_in (m := 13) (by decide)
  refine qs_asgE 4 (Q := fun d S' => ∃ (rs : List (List Str × Int)) (q' : Pool), q'.Ok ∧ rs.length ≤ 12 ∧ (∀ r ∈ rs, RowOk fs r) ∧ d = .lst (rs.map rowD) ∧ S' = S ++ [(lp, q'.D)]) sc_law.nd (de_call hro (hr.mono (by omega)) rfl pass0 (da_cons (dx_var 1 rfl) (da_cons (dx_var 2 rfl) (da_cons (dx_var 3 rfl) (da_cons (dx_draw hd (hr.mono (by omega)) (at0 p2 ok2) (dx_var 1 rfl) dx_int (by decide)) da_nil)))) ⟨lp, S.length, p2.nxt 13, fs, hs, (p2.drw 13).toNat, ?_, ?_, hfl, fs0, f6, hh, by omega, fun rs q2 ok2 hl2 hr2 => ⟨rs, q2, ok2, by omega, hr2, rfl, by rw [sets, sets]⟩⟩) ?_
  · rw [show (((p2.drw 13).toNat : Nat) : Int) = p2.drw 13 by omega]
  · rw [sets]; exact at0 _ (ok2.nxt (by decide))
  rintro d4 S5 ⟨rs, p4, ok4, r12, hrs, rfl, rfl⟩
  refine qs_asg 5 (d := .str strangeS) (S' := S ++ [(lp, p4.D)]) sc_law.nd dx_str ?_
  have tk1 : D.lst (DL.cutD (rs.map rowD) none (some 1)) = .lst ((rs.take 1).map rowD) := by rw [show (1 : Int) = ((1 : Nat) : Int) from rfl, cutD_hi, List.map_take]
  refine qs_for (V := fun _ => True) (xs := [.lst (rs.map rowD), .lst ((rs.filter fun r => (hasB hs r.1 == decide (r.2 = 1))).map rowD), .lst (DL.cutD (rs.map rowD) none (some 1)), .lst []]) (fun j ρ S' => ∃ (q : Pool) (v6 v8 v9 v10 v11 : Option D), q.Ok ∧ S' = S ++ [(lp, q.D)] ∧ ρ = [some (.lstQ (ns.map D.int)), some (.ref lp), some (.lst (fs.map fieldD)), some (.lst (hs.map partD)), some (.lst (rs.map rowD)), some (.str strangeS), v6, none, v8, v9, v10, v11]) PassesOwn.never rfl
    ?_ ⟨p4, _, _, _, _, _, ok4, rfl, rfl⟩ ?_ ?_
  · exact di_tup (dx_tup (da_cons (dx_var 4 rfl) (da_cons (DN.dx (dn_lcf (V := fun _ => True) (own := [("row", 7)]) rs rowD (fun r => (hasB hs r.1 == decide (r.2 = 1))) rowD rfl sc_law.nd (di_lst (dx_var 4 rfl)) (blkOk_by (own := [("row", 7)]) (N := ["script", "pool", "fields", "hidden", "rows", "strange", "part", "row", "least", "due", "handed", "box"]) (sc := defScope s_law) (by decide +kernel)) (by omega) (fun _ _ => trivial) ⟨fun i r hi hm => ⟨_, _, by intro j hj; simpa using hj, fun s H C cl fp => dg_name 7 sc_law.nd, fun s H C cl fp B' L acc hB' => dts_one (DT.cast (dt_eqB (u := hasB hs r.1) (S1 := S ++ [(lp, p4.D)] ++ [(L, .lst acc)]) (de_call hha (hr.mono (by omega)) rfl pass0 (da_cons (dx_var 3 rfl) (da_cons (dx_ixT (dx_var 7 rfl) dx_int rfl) da_nil)) ⟨_, hs, r.1, rfl, .inr rfl, by rw [hh.len, (hrs r hm).th.len], h6, rfl, rfl⟩) (dx_eqI (dx_ixT (dx_var 7 rfl) dx_int rfl) dx_int)) (by cases hasB hs r.1 <;> cases decide (r.2 = 1) <;> rfl)), fun _ s H C cl fp B' L acc hB' => (dx_var 7 rfl)⟩⟩)) (da_cons (DN.dx (dn_slice (dx_var 4 rfl) do_none (do_some dx_int) Vw.rfl')) (da_cons (DN.dx (dn_lst da_nil (Nat.le_of_ble_eq_true rfl))) da_nil)))) (Nat.le_of_ble_eq_true rfl))
  · rintro B4 hB4 j z ρ' S' hz ⟨q, v6, v8, v9, v10, v11, qok, rfl, rfl⟩
    obtain ⟨rs', rfl, hr', l12⟩ : ∃ rs' : List (List Str × Int), z = .lst (rs'.map rowD) ∧ (∀ r ∈ rs', RowOk fs r) ∧ rs'.length ≤ 12 := by
      match j, hz with
      | 0, hz => cases hz; exact ⟨rs, rfl, hrs, r12⟩
      | 1, hz => cases hz; exact ⟨_, rfl, fun r hr => hrs r (List.mem_filter.mp hr).1, Nat.le_trans (List.length_filter_le _ _) r12⟩
      | 2, hz =>
        cases hz
        exact ⟨rs.take 1, tk1, fun r hr => hrs r (List.mem_of_mem_take hr), by rw [List.length_take]; omega⟩
      | 3, hz => cases hz; exact ⟨[], rfl, fun r hr => (by cases hr), by decide⟩
      | j + 4, hz => simp at hz
    refine ⟨_, _, dg_name 6 sc_law.nd, ?_⟩
    refine qs_asg 8 (d := leastV fs rs') (S' := S ++ [(lp, q.D)]) sc_law.nd (de_call hle (hr.mono (by omega)) rfl pass0 (da_cons (dx_var 2 rfl) (da_cons (dx_var 6 rfl) da_nil)) ⟨fs, rs', rfl, f6, l12, fun r hr => (hr' r hr).th.len, rfl, rfl⟩) ?_
    refine qs_asg 9 sc_law.nd dx_non ?_
    have ed : dueLeast fs rs' = if onesT rs' = [] ∨ fitsB (leastP fs rs') rs' = false then D.non else boxT (leastP fs rs') := rfl
    have lv : leastV fs rs' = if onesT rs' = [] then D.non else boxT (leastP fs rs') := rfl
    refine qs_ifJ (fun ρ S' => S' = S ++ [(lp, q.D)] ∧ ρ = [some (.lstQ (ns.map D.int)), some (.ref lp), some (.lst (fs.map fieldD)), some (.lst (hs.map partD)), some (.lst (rs.map rowD)), some (.str strangeS), some (.lst (rs'.map rowD)), none, some (leastV fs rs'), some (dueLeast fs rs'), v10, v11]) (S1 := S ++ [(lp, q.D)]) (k := !decide (onesT rs' = []) && fitsB (leastP fs rs') rs') ?_ (fun e => ?_) (fun e => ?_) ?_
    · by_cases c : onesT rs' = []
      · have : leastV fs rs' = .non := by rw [lv, if_pos c]
        rw [this]
        refine DT.cast (k := false) (DW.dt (dw_andF (DT.cast (dt_notN (dx_var 8 rfl) (k := true) (fun _ _ _ r => by cases r <;> rfl)) rfl))) (by simp [c])
      · have : leastV fs rs' = boxT (leastP fs rs') := by rw [lv, if_neg c]
        rw [this]
        refine DT.cast (k := fitsB (leastP fs rs') rs') (DW.dt (dw_andT (DT.cast (dt_notN (dx_var 8 rfl) (k := false) (fun _ _ _ r => by cases r <;> rfl)) rfl) (dw_and1 (dt_of (de_call hft (hr.mono (by omega)) rfl pass0 (da_cons (dx_var 8 rfl) (da_cons (dx_var 6 rfl) da_nil)) ⟨leastP fs rs', _, rs', rfl, .inl rfl, by simp [leastP]; omega, fun r hr => by rw [(hr' r hr).th.len]; simp [leastP], rfl, rfl⟩))))) (by simp [c])
    · have c : ¬ onesT rs' = [] := by simpa using (Bool.and_eq_true_iff.mp e).1
      have d : fitsB (leastP fs rs') rs' = true := (Bool.and_eq_true_iff.mp e).2
      refine qs_asg 9 sc_law.nd (dx_var 8 rfl) (qs_nil ⟨rfl, ?_⟩)
      rw [ed, if_neg (fun z => z.elim c fun z => by rw [z] at d; cases d), lv, if_neg c]
      rfl
    · refine qs_nil ⟨rfl, ?_⟩
      have : onesT rs' = [] ∨ fitsB (leastP fs rs') rs' = false := by
        by_cases c : onesT rs' = []
        · exact .inl c
        · right
          simpa [c] using e
      rw [ed, if_pos this]
      rfl
    rintro ρ1 S1 ⟨rfl, rfl⟩
    refine qs_asg 10 (d := .lst (rs'.map rowD)) (S' := S ++ [(lp, q.D)]) sc_law.nd (DN.dx (dn_list b.list rfl (dx_var 6 rfl) (.inl Vw.rfl'))) ?_
    have pd : PD (.lst (rs'.map rowD)) (.list (rs'.map rowP)) := .lst (pd_rows rs')
    have sh := shaped_rows (row_great hf6 hr')
    have ev : PyData.eqv (.list (rs'.map rowP)) (.list (rs'.map rowP)) = true := by rw [PyData.eqv, eqv_rows]
    have sd := dueLeast_same (rs := rs') f6 l12
    have hv : leastV fs rs' = .non ∨ ∃ ls, leastV fs rs' = boxT ls ∧ BoxGood fs ls := by
      by_cases c : onesT rs' = []
      · exact .inl (by rw [lv, if_pos c])
      · exact .inr ⟨_, by rw [lv, if_neg c], least_good hr' c⟩
    generalize leastV fs rs' = lev at hv
    refine qs_if (k := false) (DW.dt (dw_orF (DT.cast (dt_not (k := true) (dt_of (de_call (hsa 2) (hr.mono (by omega)) rfl pass0 (da_cons (de_call (P := fun d S' => d = dueLeast fs rs' ∧ S' = S ++ [(lp, q.D)]) hlb (hr.mono (by omega)) rfl pass0 (da_cons (DN.dx (dn_list b.list rfl (dx_var 2 rfl) (.inl Vw.rfl'))) (da_cons (dx_var 10 rfl) da_nil)) ⟨_, _, fs, rs', rfl, .inl rfl, f1, f6, hf6, .inl rfl, l12, hr', fun os zs t1 t0 => ⟨least_plain hfd hr' (fun _ => Iff.rfl) t1 t0 rfl, rfl⟩⟩) (da_cons (dx_var 9 rfl) da_nil)) ⟨_, rfl, sd, rfl, rfl⟩))) rfl) (dw_or1 (DT.cast (dt_neD (dx_var 10 rfl) (dx_var 6 rfl) pd pd sh sh rom64) (by rw [ev]; rfl))))) (fun e => nomatch e) (fun _ => qs_nil ?_)
    refine qs_if (k := false) (DT.cast (dt_not (k := true) (dt_of (de_call (hsa 2) (hr.mono (by omega)) rfl pass0 (da_cons (de_callK (P := fun d S' => d = dueLeast fs rs' ∧ S' = S ++ [(lp, q.D)]) hlk (hr.mono (by omega)) rfl pass0 (dk_cons (dx_tuple b.tuple rfl (DN.dx (dn_revL (dx_var 6 rfl) Vw.rfl')) (.inl Vw.rfl')) (dk_cons (dx_tuple b.tuple rfl (dx_var 2 rfl) (.inl Vw.rfl')) dk_nil)) ⟨_, _, fs, rs'.reverse, rfl, .inr rfl, f1, f6, hf6, .inr (by rw [List.map_reverse]), by rw [List.length_reverse]; exact l12, fun r h => hr' r (List.mem_reverse.mp h), fun os zs t1 t0 => ⟨least_plain hfd hr' (fun _ => List.mem_reverse) t1 t0 (leastP_same fun _ => List.mem_reverse), rfl⟩⟩ rfl) (da_cons (dx_var 9 rfl) da_nil)) ⟨_, rfl, sd, rfl, rfl⟩))) rfl) (fun e => nomatch e) (fun _ => qs_nil ?_)
    -- boxes
    have cpy : D.lst (DL.cutD (rs'.map rowD) none none) = .lst (rs'.map rowD) := by rw [cutD_whole ⟨rfl, rfl⟩]
    refine qs_forP (R := fun xs S' => ∃ (bs : List (List (List Str))) (q' : Pool), q'.Ok ∧ (∀ b ∈ bs, BoxGood fs b) ∧ xs = bs.map boxT ∧ S' = S ++ [(lp, q'.D)]) PassesOwn.never rfl ?_ ?_
    · exact dip_lst (Q := fun d S' => ∃ (bs : List (List (List Str))) (q' : Pool), q'.Ok ∧ (∀ b ∈ bs, BoxGood fs b) ∧ d = .lst (bs.map boxT) ∧ S' = S ++ [(lp, q'.D)]) (de_call hbx (hr.mono (by omega)) rfl pass0 (da_cons (dx_var 1 rfl) (da_cons (dx_var 2 rfl) (da_cons (dx_var 3 rfl) (da_cons (dx_var 8 rfl) da_nil)))) ⟨lp, S.length, q, fs, hs, _, rfl, at0 q qok, hfl3, f1, f6, hh, hv, fun bs q' ok' _ _ hbs => ⟨bs, q', ok', hbs, rfl, sets _ _⟩⟩) fun d S' ⟨bs, q', ok', hbs, e1, e2⟩ => ⟨_, e1, bs, q', ok', hbs, rfl, e2⟩
    rintro xs S1 ⟨bs, q, qok, hbs, rfl, rfl⟩
    refine ⟨fun i ρ S' => ∃ v11, S' = S ++ [(lp, q.D)] ∧ ρ = [some (.lstQ (ns.map D.int)), some (.ref lp), some (.lst (fs.map fieldD)), some (.lst (hs.map partD)), some (.lst (rs.map rowD)), some (.str strangeS), some (.lst (rs'.map rowD)), none, some lev, some (dueLeast fs rs'), some (.lst (rs'.map rowD)), v11], ⟨_, rfl, rfl⟩, ?_, ?_⟩
    · rintro B5 hB5 i x ρ' S' hx ⟨v11, rfl, rfl⟩
      rw [List.getElem?_map] at hx
      obtain ⟨bx, hbx', rfl⟩ := Option.map_eq_some_iff.mp hx
      have good := hbs bx (List.mem_of_getElem? hbx')
      have gok := good.ok hfd
      refine ⟨_, _, dg_name 11 sc_law.nd, ?_⟩
      exact qs_if (k := false) (DT.cast (dt_not (k := true) (dt_of (de_call (hsa 0) (hr.mono (by omega)) rfl pass0 (da_cons (de_call (P := fun d S' => d = .bl (fitsB bx rs') ∧ S' = S ++ [(lp, q.D)]) hju (hr.mono (by omega)) rfl pass0 (da_cons (dx_tuple b.tuple rfl (dx_var 2 rfl) (.inl Vw.rfl')) (da_cons (DX.cast (DN.dx (dn_slice (dx_var 6 rfl) do_none do_none Vw.rfl')) cpy rfl) (da_cons (dx_var 11 rfl) da_nil))) ⟨_, _, _, fs, rs', rfl, .inr rfl, f1, f6, hf6, .inl rfl, l12, hr', .inl ⟨bx, rfl, good_great hf6 good, fun os zs t1 t0 => ⟨by rw [judge_plain hfd hr' (fun _ => Iff.rfl) t1 t0, gok, Bool.true_and], rfl⟩⟩⟩) (da_cons (de_call (P := fun d S' => d = .bl (fitsB bx rs') ∧ S' = S ++ [(lp, q.D)]) hft (hr.mono (by omega)) rfl pass0 (da_cons (dx_var 11 rfl) (da_cons (dx_var 6 rfl) da_nil)) ⟨bx, _, rs', rfl, .inl rfl, by rw [good.len]; exact f6, fun r hr => by rw [(hr' r hr).th.len, good.len], rfl, rfl⟩) da_nil)) ⟨_, rfl, .bl 0 _, rfl, rfl⟩))) rfl) (fun e => nomatch e) (fun _ => qs_nil (qs_nil ⟨_, rfl, rfl⟩))
    rintro ρ' S' ⟨v11, rfl, rfl⟩
    -- odd boxes
    refine qs_forP (R := fun xs S' => ∃ (q' : Pool), q'.Ok ∧ (∀ x ∈ xs, OddD fs x) ∧ S' = S ++ [(lp, q'.D)]) PassesOwn.never rfl ?_ ?_
    · refine dip_lst (Q := fun d S' => ∃ (L : List D) (q' : Pool), q'.Ok ∧ (∀ x ∈ L, OddD fs x) ∧ d = .lst L ∧ S' = S ++ [(lp, q'.D)]) (de_callP hod (R := fun ds S' => ∃ (ps : List (List Str)) (q' : Pool), q'.Ok ∧ BoxGood fs ps ∧ ds = [.lst (fs.map fieldD), boxT ps, .str strangeS] ∧ S' = S ++ [(lp, q'.D)]) (hr.mono (by omega)) rfl pass0
        (dap_x (dx_var 2 rfl) (dap_cons (Q := fun d S' => ∃ (ps : List (List Str)) (q' : Pool), q'.Ok ∧ BoxGood fs ps ∧ d = boxT ps ∧ S' = S ++ [(lp, q'.D)]) (de_ixL (Q := fun d S' => ∃ (bs : List (List (List Str))) (q' : Pool), q'.Ok ∧ 2 ≤ bs.length ∧ (∀ b ∈ bs, BoxGood fs b) ∧ d = .lst (bs.map boxT) ∧ S' = S ++ [(lp, q'.D)]) (de_call hbx (hr.mono (by omega)) rfl pass0 (da_cons (dx_var 1 rfl) (da_cons (dx_var 2 rfl) (da_cons (dx_var 3 rfl) (da_cons dx_non da_nil)))) ⟨lp, S.length, q, fs, hs, _, rfl, at0 q qok, hfl3, f1, f6, hh, .inl rfl, fun bs q' ok' l2 _ hbs => ⟨bs, q', ok', l2, hbs, rfl, sets _ _⟩⟩) ?_) ?_)) ?_) fun d S' ⟨L, q', ok', hL, e1, e2⟩ => ⟨_, e1, q', ok', hL, e2⟩
      · rintro d S1 ⟨bs, q', ok', l2, hbs, rfl, rfl⟩
        have hb1 := List.getElem?_eq_getElem (l := bs) (i := 1) (by omega)
        refine ⟨bs.map boxT, boxT bs[1], 1, rfl, dx_int, ?_, bs[1], q', ok', hbs _ (List.mem_of_getElem? hb1), rfl, rfl⟩
        unfold atI ixN
        rw [List.length_map, if_pos (by omega), if_pos (by omega)]
        show (bs.map boxT)[1]? = _
        rw [List.getElem?_map, hb1]; rfl
      · rintro d S1 ⟨ps, q', ok', good, rfl, rfl⟩
        exact dap_x (dx_var 5 rfl) (dap_nil ⟨ps, q', ok', good, rfl, rfl⟩)
      · rintro ds S1 ⟨ps, q', ok', good, rfl, rfl⟩
        exact ⟨fs, ps, rfl, f1, f6, hf6, good, fun L hL => ⟨L, q', ok', hL, rfl, rfl⟩⟩
    rintro xs S1 ⟨q, qok, hxs, rfl⟩
    refine ⟨fun i ρ S' => ∃ v11, S' = S ++ [(lp, q.D)] ∧ ρ = [some (.lstQ (ns.map D.int)), some (.ref lp), some (.lst (fs.map fieldD)), some (.lst (hs.map partD)), some (.lst (rs.map rowD)), some (.str strangeS), some (.lst (rs'.map rowD)), none, some lev, some (dueLeast fs rs'), some (.lst (rs'.map rowD)), v11], ⟨_, rfl, rfl⟩, ?_, ?_⟩
    · rintro B5 hB5 i x ρ' S' hx ⟨v11, rfl, rfl⟩
      have odd := hxs x (List.mem_of_getElem? hx)
      refine ⟨_, _, dg_name 11 sc_law.nd, ?_⟩
      refine qs_if (k := false) (DT.cast (dt_notB (u := false) (w := false) (de_call hju (hr.mono (by omega)) rfl pass0 (da_cons (DN.dx (dn_list b.list rfl (dx_var 2 rfl) (.inl Vw.rfl'))) (da_cons (dx_tuple b.tuple rfl (dx_var 6 rfl) (.inl Vw.rfl')) (da_cons (dx_var 11 rfl) da_nil))) ⟨_, _, _, fs, rs', rfl, .inl rfl, f1, f6, hf6, .inr rfl, l12, hr', ?_⟩) dx_bl) rfl) (fun e => nomatch e) (fun _ => qs_nil (qs_nil ⟨_, rfl, rfl⟩))
      rcases odd with h | ⟨ps, h1, h2, h3⟩
      · exact .inr ⟨h, rfl, rfl⟩
      · exact .inl ⟨ps, h1, h2, fun os zs t1 t0 => ⟨by unfold judgeB; rw [h3]; rfl, rfl⟩⟩
    · rintro ρ' S' ⟨v11, rfl, rfl⟩
      exact qs_nil ⟨q, _, _, _, _, _, qok, rfl, rfl⟩
  · rintro ρ' S' ⟨q, v6, v8, v9, v10, v11, qok, rfl, rfl⟩
    exact qs_ret dx_bl ⟨_, _, Fz.tail _, hQ⟩
end
end SB
set_option Elab.async false
set_option linter.all false
set_option maxRecDepth 100000
set_option maxHeartbeats 4000000
/-! A head by facts: defs, texts, tables of code objects (for generator expressions). -/
namespace HdT
open PySem PySem.Spec PyProof.Rows L2 He DL
/-- an empty table of code objects -/
def isTab (o : Obj) : Bool := match o with
  | ⟨.none, none, .fields vs, sl⟩ => vs.isEmpty && sl.isEmpty
  | _ => false
theorem isTab_ok {o : Obj} (h : isTab o = true) : o = PySem.W.tabObj #[] := by
  obtain ⟨c, d, dt, sl⟩ := o
  unfold isTab at h
  split at h
  · rename_i vs sl' e
    cases e
    obtain ⟨h1, h2⟩ := ba h
    rw [Array.isEmpty_iff.mp h1, Array.isEmpty_iff.mp h2]
  · cases h
def asT (g : Addr → Option Obj) (n : Nat) : List Addr := (asG g n).filter fun a => match g a with
  | some o => !isTab o
  | none => false
structure Facts where
  n : Nat
  fa : List Fa
  tx : List (Str × List Str)
  fn : List FnD
  gn : List (Str × Option Str)
/-- a text's tuple -/
def strsB : List Value → List Str → Bool
  | [], [] => true
  | .str y _ :: vs, t :: ts => decide (y = t) && strsB vs ts
  | _, _ => false
theorem strsB_ok : ∀ {vs : List Value} {ts : List Str}, strsB vs ts = true → Vals (ts.map V.str) vs
  | [], [], _ => .nil
  | [], _ :: _, h => by cases h
  | v :: vs, [], h => by cases v <;> cases h
  | v :: vs, t :: ts, h => by
    cases v with
    | str y k =>
      obtain ⟨h1, h2⟩ := ba (show (decide (y = t) && strsB vs ts) = true from h)
      rw [← of_decide_eq_true h1]
      exact .cons ⟨k, rfl⟩ (strsB_ok h2)
    | _ => cases h
def txtB (K : PySem.W.Frag) (q : Str × List Str) : Bool := eqO (PySem.W.nsIn K mainGlobals q.1) (some (some (.ref (ga K q.1)))) && match K.lookup (ga K q.1) with
  | some ⟨.type "tuple", _, .seq its _, _⟩ => decide (its.size ≤ 1000) && strsB its.toList q.2
  | _ => false
theorem txtB_ok {K : PySem.W.Frag} {h : Heap} {mg : Str → Option Value} (X : K.In h) (G : h.Ns mainGlobals mg) {q : Str × List Str} (c : txtB K q = true) : ∃ a, mg q.1 = some (.ref a) ∧ KTup K a (q.2.map V.str) := by
  obtain ⟨c1, c2⟩ := ba c
  refine ⟨_, PySem.W.mg_of X G (eqO_ok c1), ?_⟩
  split at c2
  · rename_i d its n sl e
    obtain ⟨h1, h2⟩ := ba c2
    exact ⟨_, its, n, e, rfl, rfl, Nat.le_trans (of_decide_eq_true h1) (by decide), strsB_ok h2⟩
  · cases c2
/-- a def's code object and its table -/
def cdOf (K : PySem.W.Frag) (p : Str × Option Str) : Addr × Addr := match K.lookup (fAd K p) with
  | some ⟨_, _, .func fd, _⟩ => (match fd.code with
    | .ref c => (match K.lookup c with
      | some ⟨_, _, .fields vs, _⟩ => (match (vs[11]? : Option Value) with
        | some (.ref P) => (c, P)
        | _ => (0, 0))
      | _ => (0, 0))
    | _ => (0, 0))
  | _ => (0, 0)
def genB (K : PySem.W.Frag) (g : Addr → Option Obj) (p : Str × Option Str) : Bool := (match K.lookup (fAd K p) with
  | some ⟨_, _, .func fd, _⟩ => decide (fd.code = .ref (cdOf K p).1)
  | _ => false) && (PySem.W.codeHdIn K (cdOf K p).1 (cdOf K p).2 && ((match g (cdOf K p).2 with
  | some o => isTab o
  | none => false) && (K.lookup (cdOf K p).2).isNone))
structure GenP (K : PySem.W.Frag) (h : Heap) (p : Str × Option Str) : Prop where
  fn : ∃ oc od fd osl, K.lookup (fAd K p) = some ⟨oc, od, .func fd, osl⟩ ∧ fd.code = .ref (cdOf K p).1
  cd : PySem.W.codeHdIn K (cdOf K p).1 (cdOf K p).2 = true
  tab : h.get? (cdOf K p).2 = some (PySem.W.tabObj #[])
  no : K.lookup (cdOf K p).2 = none
theorem genB_ok {K : PySem.W.Frag} {h : Heap} {p : Str × Option Str} (c : genB K h.get? p = true) : GenP K h p := by
  obtain ⟨c1, c⟩ := ba c
  obtain ⟨c2, c⟩ := ba c
  obtain ⟨c3, c4⟩ := ba c
  refine ⟨?_, c2, ?_, Option.isNone_iff_eq_none.mp c4⟩
  · split at c1
    · rename_i oc od fd osl e
      exact ⟨oc, od, fd, osl, e, of_decide_eq_true c1⟩
    · cases c1
  · split at c3
    · rename_i o e
      rw [e, isTab_ok c3]
    · cases c3
def obsK (F : Facts) (g : Addr → Option Obj) (K : PySem.W.Frag) : Al :=
  (((F.fa.all fun f => f.ok K) && F.fn.all fun d => (Fa.code d.at_ d.qual).ok K) && ((F.fn.all fun d => PySem.W.keepIn K (.ref (fAd K d.at_))) && (F.tx.all (txtB K) && F.gn.all (genB K g))), F.fn.map fun d => fnObs K d.at_)
def obsF (F : Facts) (g : Addr → Option Obj) : Al := obsK F g (frG g (asT g F.n))
structure Says (F : Facts) (K : PySem.W.Frag) (h : Heap) : Prop where
  e : SaysE F.fa F.fn K
  kp : ∀ d ∈ F.fn, PySem.W.keepIn K (.ref (fAd K d.at_)) = true
  tx : ∀ q ∈ F.tx, txtB K q = true
  gn : ∀ p ∈ F.gn, GenP K h p
theorem says_of {F : Facts} {h : Heap} {K : PySem.W.Frag} (e : obsK F h.get? K = valE F.fn) : Says F K h := by
  have e1 : (((F.fa.all fun f => f.ok K) && F.fn.all fun d => (Fa.code d.at_ d.qual).ok K) && ((F.fn.all fun d => PySem.W.keepIn K (.ref (fAd K d.at_))) && (F.tx.all (txtB K) && F.gn.all (genB K h.get?)))) = true := congrArg Prod.fst e
  have e2 : (F.fn.map fun d => fnObs K d.at_) = F.fn.map FnD.val := congrArg Prod.snd e
  obtain ⟨a, b⟩ := ba e1
  obtain ⟨b1, b⟩ := ba b
  obtain ⟨b2, b3⟩ := ba b
  refine ⟨Prod.ext a e2, fun d hd => List.all_eq_true.mp b1 d hd, fun q hq => List.all_eq_true.mp b2 q hq, fun p hp => genB_ok (List.all_eq_true.mp b3 p hp)⟩
def hook (F : Facts) : PySem.W.Hook where
  α := Al
  obs := fun s => obsF F s.heap.get?
  val := fun _ => valE F.fn
  says := fun _ h => ∃ K : PySem.W.Frag, K.In h ∧ Says F K h
  of := fun _ _ e => ⟨_, frG_in, says_of e⟩
  keeps := fun _ _ _ ⟨K, hK, c⟩ k => ⟨K, PySem.W.Frag.In.keeps hK k, c.e, c.kp, c.tx, fun p hp => let q := c.gn p hp; ⟨q.fn, q.cd, k _ _ q.tab, q.no⟩⟩
theorem obs_eq {F : Facts} {g : Addr → Option Obj} {s : Shared} (h : ∀ a, g a = s.heap.get? a) : obsF F g = (hook F).obs s := by
  have e : g = s.heap.get? := funext h
  rw [e] <;> rfl
/-- a def of a statement -/
def dOf (at_ : Str × Option Str) (x qual : Str) (st : Stmt) : FnD := ⟨at_, x, qual, defArgs st, defBody st, defScope st⟩
section
variable {F : Facts} {K : PySem.W.Frag} {h : Heap} {mg : Str → Option Value}
theorem Says.fun_ (c : Says F K h) (i : Nat) {at_ : Str × Option Str} {x qual : Str} {st : Stmt} (hi : F.fn[i]? = some (dOf at_ x qual st) := by rfl) : ∃ fd, Fun K x qual st (fAd K at_) fd := by
  obtain ⟨oc, od, osl, kV, doc, pm, an, cdv, ct, e, q⟩ := c.e.def_ i hi
  have k := c.kp _ (List.mem_of_getElem? hi)
  exact ⟨_, fun_mk (st := st) e q k⟩
theorem Says.funC (c : Says F K h) (i j : Nat) {at_ : Str × Option Str} {x qual : Str} {st : Stmt} (hi : F.fn[i]? = some (dOf at_ x qual st) := by rfl) (hj : F.gn[j]? = some at_ := by rfl) : ∃ fd, FunC K x qual st (fAd K at_) fd (cdOf K at_).1 := by
  obtain ⟨oc, od, osl, kV, doc, pm, an, cdv, ct, e, q⟩ := c.e.def_ i hi
  have k := c.kp _ (List.mem_of_getElem? hi)
  obtain ⟨oc2, od2, fd2, osl2, e2, q2⟩ := (c.gn _ (List.mem_of_getElem? hj)).fn
  have e : K.lookup (fAd K at_) = _ := e
  rw [e] at e2
  cases e2
  have q2 : cdv = .ref (cdOf K at_).1 := q2
  subst q2
  exact ⟨_, ⟨oc, od, kV, doc, pm, an, ct, osl, rfl, e, q⟩, k⟩
theorem Says.fact (c : Says F K h) (i : Nat) {f : Fa} (hi : F.fa[i]? = some f := by rfl) : f.ok K = true := c.e.fact i hi
theorem Says.glo (c : Says F K h) (X : K.In h) (G : h.Ns mainGlobals mg) (i : Nat) {x : Str} (hi : F.fa[i]? = some (.glo x) := by rfl) : mg x = some (.ref (fAd K (x, none))) := glo_ok X G (c.fact i hi)
theorem Says.meth (c : Says F K h) (i : Nat) {x m : Str} (hi : F.fa[i]? = some (.meth x m) := by rfl) : Meth K (ga K x) m (fAd K (x, some m)) := meth_ok (c.fact i hi)
theorem Says.mkr (c : Says F K h) (i : Nat) {x : Str} (hi : F.fa[i]? = some (.mkr x) := by rfl) : Mk K (ga K x) (fAd K (x, some "__init__")) := mkr_ok (c.fact i hi)
end
/-- where the tables stand -/
def tabsOf (F : Facts) (K : PySem.W.Frag) : List (Addr × Addr) := F.gn.map (cdOf K)
theorem gx_of {base : Heap} {mg : Str → Option Value} {c p : Addr} (h : LamX.TabB base mg c p) : GxR.TabB base mg c p := ⟨h.code, h.bm, h.gP⟩
/-- the law at the end -/
theorem law_at {F : Facts} {l : PySem.W.OpenLaw} {w : World} {K : PySem.W.Frag} {h : Heap} {mg : Str → Option Value} {fa : Addr} {n k : Nat} {x : Str} {FL : FT} (X : K.In h) (c : Says F K h)
    (hFL : ∀ ns : List Int, ns.length ≤ n → ∀ P : D → Sto → Prop, P (.bl true) [] → FL [.lstQ (ns.map D.int)] [] P X0)
    (hf : ∃ fd, (∀ (s : Shared) (u : Value), BindsTo s fd ⟨[u], []⟩ [(x, u)]) ∧ ∀ base : Heap, K.In base → base.Ns mainGlobals mg → (∀ p ∈ tabsOf F K, GxR.TabB base mg p.1 p.2) → FnOk l.prog w K mg base CX0 k fa fd [x] (spD K ((tabsOf F K).map (·.2)) FL)) :
    LamX.LawAtS l w K CX0 k n x mg fa h := by
  obtain ⟨fd, hb, hf⟩ := hf
  have gp : ∀ q ∈ tabsOf F K, ∃ p ∈ F.gn, cdOf K p = q := fun q hq => List.mem_map.mp hq
  refine ⟨fd, tabsOf F K, _, fun q hq => ?_, fun q hq => ?_, fun q hq => ?_, hb, fun H a ns hn _ hT hS => ?_, fun base hB hG hT => hf base hB hG fun p hp => gx_of (hT p hp)⟩
  · obtain ⟨p, hp, e⟩ := gp q hq
    subst e
    exact (c.gn p hp).tab
  · obtain ⟨p, hp, e⟩ := gp q hq
    subst e
    exact (c.gn p hp).no
  · obtain ⟨p, hp, e⟩ := gp q hq
    subst e
    exact PySem.W.codeHd_of_K X (c.gn p hp).cd
  · refine ⟨[.lstQ (ns.map D.int)], [], fun d S => d = .bl true ∧ S = [], X0, ⟨fun p hp => absurd hp List.not_mem_nil, List.nodup_nil, fun P hP => ?_⟩, .cons (.lstQ ?_ (Reps.ofInts ns)) .nil, hFL ns hn _ ⟨rfl, rfl⟩, fun v H' d S' ⟨e1, e2⟩ g r x => ?_, ExcIs.none⟩
    · obtain ⟨q, hq, e⟩ := List.mem_map.mp hP
      subst e
      exact ⟨#[], hT q hq, by first | exact trivial | decide⟩
    · rcases hS with hS | hS
      · exact .inr ⟨List.not_mem_nil, hS⟩
      · exact .inl hS
    · subst e1
      cases r
      rfl
end HdT
set_option Elab.async false
set_option linter.all false
set_option maxRecDepth 100000
set_option maxHeartbeats 0
namespace SB
open PySem PySem.Spec PyProof.Rows L2 DL
def fnL : List He.FnD := [HdT.dOf ("box_joined", none) "box_joined" "box_joined" s_box_joined,
  HdT.dOf ("box_has", none) "box_has" "box_has" s_box_has,
  HdT.dOf ("box_of", none) "box_of" "box_of" s_box_of,
  HdT.dOf ("is_clean", none) "is_clean" "is_clean" s_is_clean,
  HdT.dOf ("in_rows", none) "in_rows" "in_rows" s_in_rows,
  HdT.dOf ("is_row_letters", none) "is_row" "is_row" s_is_row_letters,
  HdT.dOf ("kind_of_row", none) "kind_of_row" "kind_of_row" s_kind_of_row,
  HdT.dOf ("is_great", none) "is_great" "is_great" s_is_great,
  HdT.dOf ("is_whole", none) "is_whole" "is_whole" s_is_whole,
  HdT.dOf ("is_whole_between", none) "is_whole_between" "is_whole_between" s_is_whole_between,
  HdT.dOf ("is_row_handed", none) "is_row" "is_row" s_is_row_handed,
  HdT.dOf ("is_pair", none) "is_pair" "is_pair" s_is_pair,
  HdT.dOf ("is_field", none) "is_field" "is_field" s_is_field,
  HdT.dOf ("check_fields", none) "check_fields" "check_fields" s_check_fields,
  HdT.dOf ("check_told", none) "check_told" "check_told" s_check_told,
  HdT.dOf ("is_box", none) "is_box" "is_box" s_is_box,
  HdT.dOf ("box_masks", none) "box_masks" "box_masks" s_box_masks,
  HdT.dOf ("least_box", none) "least_box" "least_box" s_least_box,
  HdT.dOf ("judge_box", none) "judge_box" "judge_box" s_judge_box,
  HdT.dOf ("_law_pool", none) "_law_pool" "_law_pool" s_law_pool,
  HdT.dOf ("_law_draw", none) "_law_draw" "_law_draw" s_law_draw,
  HdT.dOf ("_law_name", none) "_law_name" "_law_name" s_law_name,
  HdT.dOf ("_law_same", none) "_law_same" "_law_same" s_law_same,
  HdT.dOf ("_law_fields", none) "_law_fields" "_law_fields" s_law_fields,
  HdT.dOf ("_law_has", none) "_law_has" "_law_has" s_law_has,
  HdT.dOf ("_law_hidden", none) "_law_hidden" "_law_hidden" s_law_hidden,
  HdT.dOf ("_law_rows", none) "_law_rows" "_law_rows" s_law_rows,
  HdT.dOf ("_law_least", none) "_law_least" "_law_least" s_law_least,
  HdT.dOf ("_law_fits", none) "_law_fits" "_law_fits" s_law_fits,
  HdT.dOf ("_law_boxes", none) "_law_boxes" "_law_boxes" s_law_boxes,
  HdT.dOf ("_law_odd", none) "_law_odd" "_law_odd" s_law_odd,
  HdT.dOf ("law", none) "law" "law" s_law,
  HdT.dOf ("Space", some "__init__") "__init__" "Space.__init__" s_init,
  HdT.dOf ("Space", some "is_thing") "is_thing" "Space.is_thing" s_is_thing,
  HdT.dOf ("Space", some "masks_of") "masks_of" "Space.masks_of" s_masks_of,
  HdT.dOf ("Space", some "part_names") "part_names" "Space.part_names" s_part_names,
  HdT.dOf ("Space", some "box_names") "box_names" "Space.box_names" s_box_names,
  HdT.dOf ("Space", some "nothing") "nothing" "Space.nothing" s_nothing]
def faL : List He.Fa := [.glo "box_joined",
  .glo "box_has",
  .glo "box_of",
  .glo "is_clean",
  .glo "in_rows",
  .glo "is_row_letters",
  .glo "kind_of_row",
  .glo "is_great",
  .glo "is_whole",
  .glo "is_whole_between",
  .glo "is_row_handed",
  .glo "is_pair",
  .glo "is_field",
  .glo "check_fields",
  .glo "check_told",
  .glo "is_box",
  .glo "box_masks",
  .glo "least_box",
  .glo "judge_box",
  .glo "_law_pool",
  .glo "_law_draw",
  .glo "_law_name",
  .glo "_law_same",
  .glo "_law_fields",
  .glo "_law_has",
  .glo "_law_hidden",
  .glo "_law_rows",
  .glo "_law_least",
  .glo "_law_fits",
  .glo "_law_boxes",
  .glo "_law_odd",
  .glo "law",
  .meth "Space" "is_thing",
  .meth "Space" "masks_of",
  .meth "Space" "part_names",
  .meth "Space" "box_names",
  .meth "Space" "nothing",
  .int "MOST_FIELDS" 6,
  .int "FEWEST_NAMES" 2,
  .int "MOST_NAMES" 6,
  .int "MOST_TOLD" 12,
  .str "SMALL" smallS,
  .str "GREAT" tallS,
  .str "DIGITS" digitS,
  .free "len",
  .free "int",
  .free "range",
  .free "list",
  .free "tuple",
  .free "sorted",
  .free "zip",
  .free "all",
  .free "any",
  .free "isinstance",
  .free "str",
  .free "bool",
  .free "set",
  .free "sum",
  .free "enumerate",
  .glo "Space",
  .cls "Space",
  .mkr "Space",
  .noat "Space" "names",
  .noat "Space" "whole"]
def facts : HdT.Facts := ⟨5, faL, [("WORDS", wordsL)], fnL, [("box_has", none), ("is_clean", none), ("is_field", none), ("check_fields", none), ("box_masks", none), ("judge_box", none), ("Space", some "is_thing")]⟩
def loose0 : List PySem.Str := ["_wall", "__name__", "Space", "box_joined", "box_has", "box_of", "is_clean", "StoneError", "BadFields", "BadTold", "SMALL", "GREAT", "DIGITS", "WORDS", "MOST_DIGITS", "in_rows", "is_row", "is_row_letters", "is_number_row", "kind_of_row", "is_great", "is_whole", "is_whole_between", "is_row_handed", "is_pair", "MOST_FIELDS", "FEWEST_NAMES", "MOST_NAMES", "MOST_TOLD", "is_field"]
def loose1 : List PySem.Str := ["check_fields", "check_told", "is_box", "box_masks", "least_box", "judge_box", "_law_pool", "_law_draw", "_law_name", "_law_same", "_law_fields", "_law_has", "_law_hidden", "_law_rows", "_law_least", "_law_fits", "_law_boxes", "_law_odd"]
def looseL : List PySem.Str := loose0 ++ loose1
abbrev RW : PySem.W.OpenLaw := PySem.Challenge.rw_streakbook_k85_least_boxes_judged
abbrev RR : PySem.W.OpenRow := PySem.W.OpenLaw.row PySem.Challenge.rw_streakbook_k85_least_boxes_judged
abbrev hk : PySem.W.Hook := HdT.hook facts
def ob (s : PySem.W.SharedT) : He.Al := HdT.obsF facts (HandSHeadRun.getT s)
theorem ob_eq (s : PySem.W.SharedT) : ob s = hk.obs s.abs := HdT.obs_eq (HandSHeadRun.getT_eq s)
abbrev steps : Nat := 4000
theorem hrun (w : World) : HandSHeadRun.RunEq RR (PySem.W.view RR.prog [57]) hk ob steps looseL w := by
  intro os
  kernel_rfl
end SB
set_option Elab.async false
set_option linter.all false
set_option maxRecDepth 100000
set_option maxHeartbeats 0
namespace SB
open PySem PySem.Spec PyProof.Rows L2 DL
theorem law_at {w : World} {K : PySem.W.Frag} {h : Heap} {mg : Str → Option Value} {f0 : Addr} (X : K.In h) (G : h.Ns mainGlobals mg) (hfa : mg ("law" : Str) = some (.ref f0)) (c : HdT.Says facts K h) : LamX.LawAtS RW w K CX0 9 63 "script" mg f0 h := by
  refine HdT.law_at (FL := F_law) X c (fun ns hn P hP => ⟨ns, rfl, hn, hP⟩) ?_
  obtain ⟨q_box_joined, U_box_joined⟩ := c.fun_ 0 (at_ := ("box_joined", none)) (x := "box_joined") (qual := "box_joined") (st := s_box_joined)
  have B_box_joined := U_box_joined.binds (ps := ["one", "other"]) fun _ _ _ _ _ _ us hl => match us, hl with | [_, _], _ => rfl
  have m_box_joined := c.glo X G 0 (x := "box_joined")
  obtain ⟨q_box_has, U_box_has⟩ := c.funC 1 0 (at_ := ("box_has", none)) (x := "box_has") (qual := "box_has") (st := s_box_has)
  have B_box_has := U_box_has.fn.binds (ps := ["box", "thing"]) fun _ _ _ _ _ _ us hl => match us, hl with | [_, _], _ => rfl
  have m_box_has := c.glo X G 1 (x := "box_has")
  obtain ⟨q_box_of, U_box_of⟩ := c.fun_ 2 (at_ := ("box_of", none)) (x := "box_of") (qual := "box_of") (st := s_box_of)
  have B_box_of := U_box_of.binds (ps := ["things", "start"]) fun _ _ _ _ _ _ us hl => match us, hl with | [_, _], _ => rfl
  have m_box_of := c.glo X G 2 (x := "box_of")
  obtain ⟨q_is_clean, U_is_clean⟩ := c.funC 3 1 (at_ := ("is_clean", none)) (x := "is_clean") (qual := "is_clean") (st := s_is_clean)
  have B_is_clean := U_is_clean.fn.binds (ps := ["box", "zeros"]) fun _ _ _ _ _ _ us hl => match us, hl with | [_, _], _ => rfl
  have m_is_clean := c.glo X G 3 (x := "is_clean")
  obtain ⟨q_in_rows, U_in_rows⟩ := c.fun_ 4 (at_ := ("in_rows", none)) (x := "in_rows") (qual := "in_rows") (st := s_in_rows)
  have B_in_rows := U_in_rows.binds (ps := ["sign"]) fun _ _ _ _ _ _ us hl => match us, hl with | [_], _ => rfl
  have m_in_rows := c.glo X G 4 (x := "in_rows")
  obtain ⟨q_is_row_letters, U_is_row_letters⟩ := c.fun_ 5 (at_ := ("is_row_letters", none)) (x := "is_row") (qual := "is_row") (st := s_is_row_letters)
  have B_is_row_letters := U_is_row_letters.binds (ps := ["text"]) fun _ _ _ _ _ _ us hl => match us, hl with | [_], _ => rfl
  have m_is_row_letters := c.glo X G 5 (x := "is_row_letters")
  obtain ⟨q_kind_of_row, U_kind_of_row⟩ := c.fun_ 6 (at_ := ("kind_of_row", none)) (x := "kind_of_row") (qual := "kind_of_row") (st := s_kind_of_row)
  have B_kind_of_row := U_kind_of_row.binds (ps := ["row"]) fun _ _ _ _ _ _ us hl => match us, hl with | [_], _ => rfl
  have m_kind_of_row := c.glo X G 6 (x := "kind_of_row")
  obtain ⟨q_is_great, U_is_great⟩ := c.fun_ 7 (at_ := ("is_great", none)) (x := "is_great") (qual := "is_great") (st := s_is_great)
  have B_is_great := U_is_great.binds (ps := ["value"]) fun _ _ _ _ _ _ us hl => match us, hl with | [_], _ => rfl
  have m_is_great := c.glo X G 7 (x := "is_great")
  obtain ⟨q_is_whole, U_is_whole⟩ := c.fun_ 8 (at_ := ("is_whole", none)) (x := "is_whole") (qual := "is_whole") (st := s_is_whole)
  have B_is_whole := U_is_whole.binds (ps := ["value"]) fun _ _ _ _ _ _ us hl => match us, hl with | [_], _ => rfl
  have m_is_whole := c.glo X G 8 (x := "is_whole")
  obtain ⟨q_is_whole_between, U_is_whole_between⟩ := c.fun_ 9 (at_ := ("is_whole_between", none)) (x := "is_whole_between") (qual := "is_whole_between") (st := s_is_whole_between)
  have B_is_whole_between := U_is_whole_between.binds (ps := ["value", "least", "greatest"]) fun _ _ _ _ _ _ us hl => match us, hl with | [_, _, _], _ => rfl
  have m_is_whole_between := c.glo X G 9 (x := "is_whole_between")
  obtain ⟨q_is_row_handed, U_is_row_handed⟩ := c.fun_ 10 (at_ := ("is_row_handed", none)) (x := "is_row") (qual := "is_row") (st := s_is_row_handed)
  have B_is_row_handed := U_is_row_handed.binds (ps := ["value"]) fun _ _ _ _ _ _ us hl => match us, hl with | [_], _ => rfl
  have m_is_row_handed := c.glo X G 10 (x := "is_row_handed")
  obtain ⟨q_is_pair, U_is_pair⟩ := c.fun_ 11 (at_ := ("is_pair", none)) (x := "is_pair") (qual := "is_pair") (st := s_is_pair)
  have B_is_pair := U_is_pair.binds (ps := ["value"]) fun _ _ _ _ _ _ us hl => match us, hl with | [_], _ => rfl
  have m_is_pair := c.glo X G 11 (x := "is_pair")
  obtain ⟨q_is_field, U_is_field⟩ := c.funC 12 2 (at_ := ("is_field", none)) (x := "is_field") (qual := "is_field") (st := s_is_field)
  have B_is_field := U_is_field.fn.binds (ps := ["value"]) fun _ _ _ _ _ _ us hl => match us, hl with | [_], _ => rfl
  have m_is_field := c.glo X G 12 (x := "is_field")
  obtain ⟨q_check_fields, U_check_fields⟩ := c.funC 13 3 (at_ := ("check_fields", none)) (x := "check_fields") (qual := "check_fields") (st := s_check_fields)
  have B_check_fields := U_check_fields.fn.binds (ps := ["fields"]) fun _ _ _ _ _ _ us hl => match us, hl with | [_], _ => rfl
  have m_check_fields := c.glo X G 13 (x := "check_fields")
  obtain ⟨q_check_told, U_check_told⟩ := c.fun_ 14 (at_ := ("check_told", none)) (x := "check_told") (qual := "check_told") (st := s_check_told)
  have B_check_told := U_check_told.binds (ps := ["space", "told"]) fun _ _ _ _ _ _ us hl => match us, hl with | [_, _], _ => rfl
  have m_check_told := c.glo X G 14 (x := "check_told")
  obtain ⟨q_is_box, U_is_box⟩ := c.fun_ 15 (at_ := ("is_box", none)) (x := "is_box") (qual := "is_box") (st := s_is_box)
  have B_is_box := U_is_box.binds (ps := ["space", "value"]) fun _ _ _ _ _ _ us hl => match us, hl with | [_, _], _ => rfl
  have m_is_box := c.glo X G 15 (x := "is_box")
  obtain ⟨q_box_masks, U_box_masks⟩ := c.funC 16 4 (at_ := ("box_masks", none)) (x := "box_masks") (qual := "box_masks") (st := s_box_masks)
  have B_box_masks := U_box_masks.fn.binds (ps := ["space", "box"]) fun _ _ _ _ _ _ us hl => match us, hl with | [_, _], _ => rfl
  have m_box_masks := c.glo X G 16 (x := "box_masks")
  obtain ⟨q_least_box, U_least_box⟩ := c.fun_ 17 (at_ := ("least_box", none)) (x := "least_box") (qual := "least_box") (st := s_least_box)
  have B_least_box := U_least_box.binds (ps := ["fields", "told"]) fun _ _ _ _ _ _ us hl => match us, hl with | [_, _], _ => rfl
  have KB_least_box := DL.kbn_of (ps := ["fields", "told"]) (ks := ["told", "fields"]) (π := [1, 0]) U_least_box fun _ _ _ _ _ _ ws hl => match ws, hl with | [_, _], _ => rfl
  have m_least_box := c.glo X G 17 (x := "least_box")
  obtain ⟨q_judge_box, U_judge_box⟩ := c.funC 18 5 (at_ := ("judge_box", none)) (x := "judge_box") (qual := "judge_box") (st := s_judge_box)
  have B_judge_box := U_judge_box.fn.binds (ps := ["fields", "told", "box"]) fun _ _ _ _ _ _ us hl => match us, hl with | [_, _, _], _ => rfl
  have m_judge_box := c.glo X G 18 (x := "judge_box")
  obtain ⟨q_law_pool, U_law_pool⟩ := c.fun_ 19 (at_ := ("_law_pool", none)) (x := "_law_pool") (qual := "_law_pool") (st := s_law_pool)
  have B_law_pool := U_law_pool.binds (ps := ["script"]) fun _ _ _ _ _ _ us hl => match us, hl with | [_], _ => rfl
  have m_law_pool := c.glo X G 19 (x := "_law_pool")
  obtain ⟨q_law_draw, U_law_draw⟩ := c.fun_ 20 (at_ := ("_law_draw", none)) (x := "_law_draw") (qual := "_law_draw") (st := s_law_draw)
  have B_law_draw := U_law_draw.binds (ps := ["pool", "many"]) fun _ _ _ _ _ _ us hl => match us, hl with | [_, _], _ => rfl
  have m_law_draw := c.glo X G 20 (x := "_law_draw")
  obtain ⟨q_law_name, U_law_name⟩ := c.fun_ 21 (at_ := ("_law_name", none)) (x := "_law_name") (qual := "_law_name") (st := s_law_name)
  have B_law_name := U_law_name.binds (ps := ["pool", "used", "great"]) fun _ _ _ _ _ _ us hl => match us, hl with | [_, _, _], _ => rfl
  have m_law_name := c.glo X G 21 (x := "_law_name")
  obtain ⟨q_law_same, U_law_same⟩ := c.fun_ 22 (at_ := ("_law_same", none)) (x := "_law_same") (qual := "_law_same") (st := s_law_same)
  have B_law_same := U_law_same.binds (ps := ["got", "due"]) fun _ _ _ _ _ _ us hl => match us, hl with | [_, _], _ => rfl
  have m_law_same := c.glo X G 22 (x := "_law_same")
  obtain ⟨q_law_fields, U_law_fields⟩ := c.fun_ 23 (at_ := ("_law_fields", none)) (x := "_law_fields") (qual := "_law_fields") (st := s_law_fields)
  have B_law_fields := U_law_fields.binds (ps := ["pool", "count", "most"]) fun _ _ _ _ _ _ us hl => match us, hl with | [_, _, _], _ => rfl
  have m_law_fields := c.glo X G 23 (x := "_law_fields")
  obtain ⟨q_law_has, U_law_has⟩ := c.fun_ 24 (at_ := ("_law_has", none)) (x := "_law_has") (qual := "_law_has") (st := s_law_has)
  have B_law_has := U_law_has.binds (ps := ["box", "thing"]) fun _ _ _ _ _ _ us hl => match us, hl with | [_, _], _ => rfl
  have m_law_has := c.glo X G 24 (x := "_law_has")
  obtain ⟨q_law_hidden, U_law_hidden⟩ := c.fun_ 25 (at_ := ("_law_hidden", none)) (x := "_law_hidden") (qual := "_law_hidden") (st := s_law_hidden)
  have B_law_hidden := U_law_hidden.binds (ps := ["pool", "fields"]) fun _ _ _ _ _ _ us hl => match us, hl with | [_, _], _ => rfl
  have m_law_hidden := c.glo X G 25 (x := "_law_hidden")
  obtain ⟨q_law_rows, U_law_rows⟩ := c.fun_ 26 (at_ := ("_law_rows", none)) (x := "_law_rows") (qual := "_law_rows") (st := s_law_rows)
  have B_law_rows := U_law_rows.binds (ps := ["pool", "fields", "box", "many"]) fun _ _ _ _ _ _ us hl => match us, hl with | [_, _, _, _], _ => rfl
  have m_law_rows := c.glo X G 26 (x := "_law_rows")
  obtain ⟨q_law_least, U_law_least⟩ := c.fun_ 27 (at_ := ("_law_least", none)) (x := "_law_least") (qual := "_law_least") (st := s_law_least)
  have B_law_least := U_law_least.binds (ps := ["fields", "rows"]) fun _ _ _ _ _ _ us hl => match us, hl with | [_, _], _ => rfl
  have m_law_least := c.glo X G 27 (x := "_law_least")
  obtain ⟨q_law_fits, U_law_fits⟩ := c.fun_ 28 (at_ := ("_law_fits", none)) (x := "_law_fits") (qual := "_law_fits") (st := s_law_fits)
  have B_law_fits := U_law_fits.binds (ps := ["box", "rows"]) fun _ _ _ _ _ _ us hl => match us, hl with | [_, _], _ => rfl
  have m_law_fits := c.glo X G 28 (x := "_law_fits")
  obtain ⟨q_law_boxes, U_law_boxes⟩ := c.fun_ 29 (at_ := ("_law_boxes", none)) (x := "_law_boxes") (qual := "_law_boxes") (st := s_law_boxes)
  have B_law_boxes := U_law_boxes.binds (ps := ["pool", "fields", "hidden", "least"]) fun _ _ _ _ _ _ us hl => match us, hl with | [_, _, _, _], _ => rfl
  have m_law_boxes := c.glo X G 29 (x := "_law_boxes")
  obtain ⟨q_law_odd, U_law_odd⟩ := c.fun_ 30 (at_ := ("_law_odd", none)) (x := "_law_odd") (qual := "_law_odd") (st := s_law_odd)
  have B_law_odd := U_law_odd.binds (ps := ["fields", "box", "strange"]) fun _ _ _ _ _ _ us hl => match us, hl with | [_, _, _], _ => rfl
  have m_law_odd := c.glo X G 30 (x := "_law_odd")
  obtain ⟨q_law, U_law⟩ := c.fun_ 31 (at_ := ("law", none)) (x := "law") (qual := "law") (st := s_law)
  have B_law := U_law.binds (ps := ["script"]) fun _ _ _ _ _ _ us hl => match us, hl with | [_], _ => rfl
  have m_law := c.glo X G 31 (x := "law")
  obtain ⟨q_init, U_init⟩ := c.fun_ 32 (at_ := ("Space", some "__init__")) (x := "__init__") (qual := "Space.__init__") (st := s_init)
  have B_init := U_init.binds (ps := ["self", "fields"]) fun _ _ _ _ _ _ us hl => match us, hl with | [_, _], _ => rfl
  have m_init := c.mkr 61 (x := "Space")
  obtain ⟨q_is_thing, U_is_thing⟩ := c.funC 33 6 (at_ := ("Space", some "is_thing")) (x := "is_thing") (qual := "Space.is_thing") (st := s_is_thing)
  have B_is_thing := U_is_thing.fn.binds (ps := ["self", "value"]) fun _ _ _ _ _ _ us hl => match us, hl with | [_, _], _ => rfl
  have m_is_thing := c.meth 32 (x := "Space") (m := "is_thing")
  obtain ⟨q_masks_of, U_masks_of⟩ := c.fun_ 34 (at_ := ("Space", some "masks_of")) (x := "masks_of") (qual := "Space.masks_of") (st := s_masks_of)
  have B_masks_of := U_masks_of.binds (ps := ["self", "thing"]) fun _ _ _ _ _ _ us hl => match us, hl with | [_, _], _ => rfl
  have m_masks_of := c.meth 33 (x := "Space") (m := "masks_of")
  obtain ⟨q_part_names, U_part_names⟩ := c.fun_ 35 (at_ := ("Space", some "part_names")) (x := "part_names") (qual := "Space.part_names") (st := s_part_names)
  have B_part_names := U_part_names.binds (ps := ["self", "place", "mask"]) fun _ _ _ _ _ _ us hl => match us, hl with | [_, _, _], _ => rfl
  have m_part_names := c.meth 34 (x := "Space") (m := "part_names")
  obtain ⟨q_box_names, U_box_names⟩ := c.fun_ 36 (at_ := ("Space", some "box_names")) (x := "box_names") (qual := "Space.box_names") (st := s_box_names)
  have B_box_names := U_box_names.binds (ps := ["self", "box"]) fun _ _ _ _ _ _ us hl => match us, hl with | [_, _], _ => rfl
  have m_box_names := c.meth 35 (x := "Space") (m := "box_names")
  obtain ⟨q_nothing, U_nothing⟩ := c.fun_ 37 (at_ := ("Space", some "nothing")) (x := "nothing") (qual := "Space.nothing") (st := s_nothing)
  have B_nothing := U_nothing.binds (ps := ["self"]) fun _ _ _ _ _ _ us hl => match us, hl with | [_], _ => rfl
  have m_nothing := c.meth 36 (x := "Space") (m := "nothing")
  have I_MOST_FIELDS := He.int_ok X G (c.fact 37)
  have I_FEWEST_NAMES := He.int_ok X G (c.fact 38)
  have I_MOST_NAMES := He.int_ok X G (c.fact 39)
  have I_MOST_TOLD := He.int_ok X G (c.fact 40)
  have S_SMALL := He.str_ok X G (c.fact 41)
  have S_GREAT := He.str_ok X G (c.fact 42)
  have S_DIGITS := He.str_ok X G (c.fact 43)
  have Z_len := He.free_ok X G (c.fact 44)
  have Z_int := He.free_ok X G (c.fact 45)
  have Z_range := He.free_ok X G (c.fact 46)
  have Z_list := He.free_ok X G (c.fact 47)
  have Z_tuple := He.free_ok X G (c.fact 48)
  have Z_sorted := He.free_ok X G (c.fact 49)
  have Z_zip := He.free_ok X G (c.fact 50)
  have Z_all := He.free_ok X G (c.fact 51)
  have Z_any := He.free_ok X G (c.fact 52)
  have Z_isinstance := He.free_ok X G (c.fact 53)
  have Z_str := He.free_ok X G (c.fact 54)
  have Z_bool := He.free_ok X G (c.fact 55)
  have Z_set := He.free_ok X G (c.fact 56)
  have Z_sum := He.free_ok X G (c.fact 57)
  have Z_enumerate := He.free_ok X G (c.fact 58)
  have C_Space := He.cls_ok (c.fact 60)
  have M_Space := He.glo_ok X G (c.fact 59)
  have A_Space_names := He.noat_ok (c.fact 62)
  have A_Space_whole := He.noat_ok (c.fact 63)
  have T_WORDS := HdT.txtB_ok X G (c.tx _ (List.mem_of_getElem? (i := 0) rfl))
  have e := hfa.symm.trans m_law
  cases e
  have b : BI mg := ⟨Z_len, Z_int, Z_range, Z_list, Z_tuple, Z_sorted, Z_zip, Z_all, Z_isinstance, Z_str, Z_bool⟩
  have Gv : Gs K mg := ⟨S_SMALL, S_GREAT, S_DIGITS, T_WORDS, I_MOST_FIELDS, I_FEWEST_NAMES, I_MOST_NAMES⟩
  have sc : SpC K (He.ga K "Space") := ⟨C_Space, A_Space_names, A_Space_whole⟩
  refine ⟨q_law, fun s v => ?_, fun base hB hG hT => ?_⟩
  · obtain ⟨oc, od, kV, doc, pm, an, cdv, ct, osl, e, _⟩ := U_law.ex
    rw [e]
    exact .of_eq rfl
  generalize hTT : (HdT.tabsOf facts K).map (·.2) = T
  have tab : ∀ q ∈ HdT.tabsOf facts K, TabOk base mg T q.1 q.2 := fun q hq => ⟨hT q hq, by rw [← hTT]; exact List.mem_map.mpr ⟨q, hq, rfl⟩⟩
  have tb_box_has := tab _ (show HdT.cdOf K ("box_has", none) ∈ HdT.tabsOf facts K from List.mem_map.mpr ⟨_, List.mem_of_getElem? (i := 0) rfl, rfl⟩)
  have tb_is_clean := tab _ (show HdT.cdOf K ("is_clean", none) ∈ HdT.tabsOf facts K from List.mem_map.mpr ⟨_, List.mem_of_getElem? (i := 1) rfl, rfl⟩)
  have tb_is_field := tab _ (show HdT.cdOf K ("is_field", none) ∈ HdT.tabsOf facts K from List.mem_map.mpr ⟨_, List.mem_of_getElem? (i := 2) rfl, rfl⟩)
  have tb_check_fields := tab _ (show HdT.cdOf K ("check_fields", none) ∈ HdT.tabsOf facts K from List.mem_map.mpr ⟨_, List.mem_of_getElem? (i := 3) rfl, rfl⟩)
  have tb_box_masks := tab _ (show HdT.cdOf K ("box_masks", none) ∈ HdT.tabsOf facts K from List.mem_map.mpr ⟨_, List.mem_of_getElem? (i := 4) rfl, rfl⟩)
  have tb_judge_box := tab _ (show HdT.cdOf K ("judge_box", none) ∈ HdT.tabsOf facts K from List.mem_map.mpr ⟨_, List.mem_of_getElem? (i := 5) rfl, rfl⟩)
  have tb_is_thing := tab _ (show HdT.cdOf K ("Space", some "is_thing") ∈ HdT.tabsOf facts K from List.mem_map.mpr ⟨_, List.mem_of_getElem? (i := 6) rfl, rfl⟩)
  have n_law_draw := fn_draw (P := RW.prog) (w := w) (T := T) (base := base) (mg := mg) (K := K)  U_law_draw b m_law_draw B_law_draw
  have n_law_pool := fn_pool (P := RW.prog) (w := w) (T := T) (base := base) (mg := mg) (K := K)  U_law_pool b m_law_pool B_law_pool
  have n_law_name := fn_name (P := RW.prog) (w := w) (T := T) (base := base) (mg := mg) (K := K)  U_law_name b n_law_draw m_law_name B_law_name
  have n_law_fields := fn_fields (P := RW.prog) (w := w) (T := T) (base := base) (mg := mg) (K := K)  U_law_fields b n_law_draw n_law_name m_law_fields B_law_fields
  have n_law_hidden := fn_hidden (P := RW.prog) (w := w) (T := T) (base := base) (mg := mg) (K := K)  U_law_hidden b n_law_draw m_law_hidden B_law_hidden
  have n_law_has := fn_has (P := RW.prog) (w := w) (T := T) (base := base) (mg := mg) (K := K)  U_law_has b m_law_has B_law_has
  have n_law_rows := fn_rows (P := RW.prog) (w := w) (T := T) (base := base) (mg := mg) (K := K)  U_law_rows b n_law_draw n_law_has m_law_rows B_law_rows
  have d_box_joined := fd_joined (P := RW.prog) (w := w) (T := T) (base := base) (mg := mg) (K := K)  U_box_joined b B_box_joined
  have n_box_joined := d_box_joined.fn m_box_joined U_box_joined.kp
  have d_box_of := fd_boxOf (P := RW.prog) (w := w) (T := T) (base := base) (mg := mg) (K := K)  U_box_of n_box_joined B_box_of
  have n_box_of := d_box_of.fn m_box_of U_box_of.kp
  have n_nothing : FM RW.prog w K mg base T CX0 1 (He.ga K "Space") "nothing" ["self"] (F_nothing (He.ga K "Space")) := ⟨_, _, fd_nothing (P := RW.prog) (w := w) (T := T) (base := base) (mg := mg) (K := K)  U_nothing b sc B_nothing, m_nothing⟩
  have d_in_rows := fd_in_rows (P := RW.prog) (w := w) (T := T) (base := base) (mg := mg) (K := K)  U_in_rows Gv B_in_rows
  have n_in_rows := d_in_rows.fn m_in_rows U_in_rows.kp
  have d_is_row_letters := fd_rowL (P := RW.prog) (w := w) (T := T) (base := base) (mg := mg) (K := K)  U_is_row_letters b n_in_rows B_is_row_letters
  have n_is_row_letters := d_is_row_letters.fn m_is_row_letters U_is_row_letters.kp
  have d_kind_of_row := fd_kind (P := RW.prog) (w := w) (T := T) (base := base) (mg := mg) (K := K)  U_kind_of_row Gv B_kind_of_row
  have n_kind_of_row := d_kind_of_row.fn m_kind_of_row U_kind_of_row.kp
  have d_is_great := fd_great (P := RW.prog) (w := w) (T := T) (base := base) (mg := mg) (K := K)  U_is_great b n_is_row_letters n_kind_of_row B_is_great
  have n_is_great := d_is_great.fn m_is_great U_is_great.kp
  have d_is_whole := fd_whole (P := RW.prog) (w := w) (T := T) (base := base) (mg := mg) (K := K)  U_is_whole b B_is_whole
  have n_is_whole := d_is_whole.fn m_is_whole U_is_whole.kp
  have d_is_whole_between := fd_between (P := RW.prog) (w := w) (T := T) (base := base) (mg := mg) (K := K)  U_is_whole_between n_is_whole B_is_whole_between
  have n_is_whole_between := d_is_whole_between.fn m_is_whole_between U_is_whole_between.kp
  have d_is_row_handed := fd_rowH (P := RW.prog) (w := w) (T := T) (base := base) (mg := mg) (K := K)  U_is_row_handed b B_is_row_handed
  have n_is_row_handed := d_is_row_handed.fn m_is_row_handed U_is_row_handed.kp
  have d_is_pair := fd_pair (P := RW.prog) (w := w) (T := T) (base := base) (mg := mg) (K := K)  U_is_pair b B_is_pair
  have n_is_pair := d_is_pair.fn m_is_pair U_is_pair.kp
  have d_is_field := fd_field (P := RW.prog) (w := w) (T := T) (base := base) (mg := mg) (K := K)  U_is_field b Z_set Gv tb_is_field n_is_great B_is_field
  have n_is_field := d_is_field.fn m_is_field U_is_field.fn.kp
  have n_init : FI RW.prog w K mg base T CX0 1 (He.ga K "Space") ["self", "fields"] (F_init (He.ga K "Space")) := ⟨_, _, fd_init (P := RW.prog) (w := w) (T := T) (base := base) (mg := mg) (K := K)  U_init b sc B_init, m_init⟩
  have d_check_fields := fd_checkF (P := RW.prog) (w := w) (T := T) (base := base) (mg := mg) (K := K)  U_check_fields b Gv tb_check_fields n_is_row_handed n_is_field M_Space n_init B_check_fields
  have n_check_fields := d_check_fields.fn m_check_fields U_check_fields.fn.kp
  have n_is_thing : FM RW.prog w K mg base T CX0 2 (He.ga K "Space") "is_thing" ["self", "value"] (F_isThing (He.ga K "Space")) := ⟨_, _, fd_isThing (P := RW.prog) (w := w) (T := T) (base := base) (mg := mg) (K := K)  U_is_thing b sc tb_is_thing B_is_thing, m_is_thing⟩
  have n_masks_of : FM RW.prog w K mg base T CX0 1 (He.ga K "Space") "masks_of" ["self", "thing"] (F_masks (He.ga K "Space")) := ⟨_, _, fd_masks (P := RW.prog) (w := w) (T := T) (base := base) (mg := mg) (K := K)  U_masks_of b sc B_masks_of, m_masks_of⟩
  have d_check_told := fd_checkTold (P := RW.prog) (w := w) (T := T) (base := base) (mg := mg) (K := K)  U_check_told b I_MOST_TOLD sc n_is_row_handed n_is_pair n_is_whole_between n_is_thing n_masks_of B_check_told
  have n_check_told := d_check_told.fn m_check_told U_check_told.kp
  have d_box_has := fd_boxHas (P := RW.prog) (w := w) (T := T) (base := base) (mg := mg) (K := K)  U_box_has b tb_box_has B_box_has
  have n_box_has := d_box_has.fn m_box_has U_box_has.fn.kp
  have d_is_clean := fd_clean (P := RW.prog) (w := w) (T := T) (base := base) (mg := mg) (K := K)  U_is_clean b Z_any tb_is_clean n_box_has B_is_clean
  have n_is_clean := d_is_clean.fn m_is_clean U_is_clean.fn.kp
  have n_part_names : FM RW.prog w K mg base T CX0 1 (He.ga K "Space") "part_names" ["self", "place", "mask"] (F_partNames (He.ga K "Space")) := ⟨_, _, fd_partNames (P := RW.prog) (w := w) (T := T) (base := base) (mg := mg) (K := K)  U_part_names b Z_enumerate sc B_part_names, m_part_names⟩
  have n_box_names : FM RW.prog w K mg base T CX0 2 (He.ga K "Space") "box_names" ["self", "box"] (F_boxNames (He.ga K "Space")) := ⟨_, _, fd_boxNames (P := RW.prog) (w := w) (T := T) (base := base) (mg := mg) (K := K)  U_box_names b Z_enumerate sc n_part_names B_box_names, m_box_names⟩
  have d_is_box := fd_isBox (P := RW.prog) (w := w) (T := T) (base := base) (mg := mg) (K := K)  U_is_box b sc B_is_box
  have n_is_box := d_is_box.fn m_is_box U_is_box.kp
  have d_box_masks := fd_boxMasks (P := RW.prog) (w := w) (T := T) (base := base) (mg := mg) (K := K)  U_box_masks b Z_sum sc tb_box_masks B_box_masks
  have n_box_masks := d_box_masks.fn m_box_masks U_box_masks.fn.kp
  have d_least_box := fd_least (P := RW.prog) (w := w) (T := T) (base := base) (mg := mg) (K := K)  U_least_box sc n_check_fields n_check_told n_nothing n_box_of n_is_clean n_box_names B_least_box
  have n_least_box := d_least_box.fn m_least_box U_least_box.kp
  have nk_least_box := d_least_box.fnk m_least_box U_least_box.kp KB_least_box
  have d_judge_box := fd_judge (P := RW.prog) (w := w) (T := T) (base := base) (mg := mg) (K := K)  U_judge_box b tb_judge_box n_check_fields n_check_told n_is_box n_box_masks n_box_has n_is_clean B_judge_box
  have n_judge_box := d_judge_box.fn m_judge_box U_judge_box.fn.kp
  have n_law_same := fn_same (P := RW.prog) (w := w) (T := T) (base := base) (mg := mg) (K := K)  U_law_same b m_law_same B_law_same
  have n_hasT := fn_hasT (P := RW.prog) (w := w) (T := T) (base := base) (mg := mg) (K := K)  U_law_has b m_law_has B_law_has
  have d_law_fits := fd_fitsT (P := RW.prog) (w := w) (T := T) (base := base) (mg := mg) (K := K)  U_law_fits n_hasT B_law_fits
  have n_law_fits := d_law_fits.fn m_law_fits U_law_fits.kp
  have d_law_least := fd_lawLeast (P := RW.prog) (w := w) (T := T) (base := base) (mg := mg) (K := K)  U_law_least b Z_set B_law_least
  have n_law_least := d_law_least.fn m_law_least U_law_least.kp
  have d_law_boxes := fd_lawBoxes (P := RW.prog) (w := w) (T := T) (base := base) (mg := mg) (K := K)  U_law_boxes b n_law_draw n_law_hidden B_law_boxes
  have n_law_boxes := d_law_boxes.fn m_law_boxes U_law_boxes.kp
  have d_law_odd := fd_lawOdd (P := RW.prog) (w := w) (T := T) (base := base) (mg := mg) (K := K)  U_law_odd b B_law_odd
  have n_law_odd := d_law_odd.fn m_law_odd U_law_odd.kp
  exact (fd_law U_law b n_law_pool n_law_draw n_law_fields n_law_hidden n_law_rows n_law_has n_law_least n_law_fits n_law_same n_least_box nk_least_box n_law_boxes n_law_odd n_judge_box B_law).ok
end SB
open PySem PySem.W PySem.Calls PyProof.Rows in
set_option maxRecDepth 100000 in
set_option maxHeartbeats 0 in
theorem PySem.Challenge.cw_streakbook_k85_least_boxes_judged_holds : PySem.Challenge.rw_streakbook_k85_least_boxes_judged.Holds := by
  w_on; o_law
  refine HandSHeadRun.head_any (r := OpenLaw.row PySem.Challenge.rw_streakbook_k85_least_boxes_judged) (q := view (OpenLaw.row PySem.Challenge.rw_streakbook_k85_least_boxes_judged).prog [57]) (H := SB.hk) (ob := SB.ob) (M := SB.steps) (loose := SB.looseL) (d := HandSHeadRun.topDef (OpenLaw.row PySem.Challenge.rw_streakbook_k85_least_boxes_judged).prog 57) (kwd := []) SB.ob_eq
    (by kernel_rfl) (fun s => by kernel_rfl) SB.hrun (by kernel_rfl) (by kernel_rfl) (by kernel_rfl) (by rfl) (by first | assumption | decide +kernel) (by decide +kernel) ⟨rfl, rfl, rfl, rfl, rfl, by decide +kernel⟩ ?hw ?hc
  case hw => w_witness2
  case hc =>
    refine LamX.walk_ofTsE (l := PySem.Challenge.rw_streakbook_k85_least_boxes_judged) (n := 63) (k := 9) (x := "script") (CX := fun _ => L2.CX0) rfl (by decide) (by kernel_rfl) ⟨rfl, by decide, by decide⟩ ?F (fun _ _ _ _ _ z => z)
    intro w mg fa h Y G hmg0
    obtain ⟨K, KX, c⟩ := Y
    have hmg : mg ("law" : PySem.Str) = some (.ref fa) := by
      have e : (HandSHeadRun.topDef (OpenLaw.row PySem.Challenge.rw_streakbook_k85_least_boxes_judged).prog 57).name = ("law" : PySem.Str) := by kernel_rfl
      rw [← e]
      exact hmg0
    exact ⟨K, KX, SB.law_at KX G hmg c⟩
