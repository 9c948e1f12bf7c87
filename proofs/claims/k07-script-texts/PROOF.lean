import PyProof.Rows.All
import HandS.ForMost
import HandS.Exc
import HandS.Text
import HandS.RaiseMore
import HandS.ReplaceLit
import HandS.TupMul
import HandS.TupAny
import HandS.RevTup
import HandS.SortOrd
import HandS.Wide
import HandS.IsInst
import HandS.Style
import HandS.Flow
import HandS.Deep
import HandS.DictComp
import KE.KeyNested
import KE.GoesNew
import HandS.More
import KE.KRevSl
import KE.KDictKeyed
import KE.SortData
import HandS.Conv
import OpenK.KTop
import HandS.ExcOwn
import HandS.Defaults
import HandS.CallSlots
import HandS.WordsExc
import HandS.ExcInit
import HandS.ExcField
import KE.KExcSuper
import PyProof.StrReplace2
import HandS.Codes
import KE.IntTextLaws
import KE.KExcIs
import PySem.Challenge.RW_keptlazily_k07_script_texts
set_option Elab.async false
set_option linter.all false
set_option maxRecDepth 100000
namespace Z
open PySem PySem.Spec PyProof.Rows L2

/-! ## data by value -/
inductive Kd where
  | tup | lst | dK (ks : List Key) | dT (ks : List (List Key))
  /-- a dict that is walked: read, not written -/
  | lkK (o : Unit → Obj × List V) (ks : List Key) | lkT (o : Unit → Obj × List V) (ks : List (List Key))
inductive D where
  | at (v : V)
  | nd (k : Kd) (o : Bool) (ds : List D)

abbrev D.int (i : Int) : D := .at (.int i)
abbrev D.str (x : Str) : D := .at (.str x)
abbrev D.bl (b : Bool) : D := .at (.bl b)
abbrev D.non : D := .at .non
abbrev D.tup (ds : List D) : D := .nd .tup false ds
abbrev D.lst (o : Bool) (ds : List D) : D := .nd .lst o ds

def Kd.isTup : Kd → Bool
  | .tup => true
  | _ => false
mutual
def D.froz : D → Bool
  | .at _ => true
  | .nd .tup _ ds => frozL ds
  | .nd _ true _ => false
  | .nd _ false ds => frozL ds
def frozL : List D → Bool
  | [] => true
  | d :: ds => d.froz && frozL ds
end
mutual
def D.frz : D → D
  | .at v => .at v
  | .nd k o ds => .nd k (k.isTup && o) (frzL ds)
def frzL : List D → List D
  | [] => []
  | d :: ds => d.frz :: frzL ds
end
theorem frzL_length : ∀ ds : List D, (frzL ds).length = ds.length
  | [] => rfl
  | _ :: ds => congrArg (· + 1) (frzL_length ds)

def ho : Kd → List V → HO
  | .tup, vs => .tup vs
  | .lst, vs => .lst vs
  | .dK ks, vs => .dK (ks.zip vs)
  | .dT ks, vs => .dT (ks.zip vs)
  | .lkK o ks, vs => .frz (o ()).1 (.dK (ks.zip vs))
  | .lkT o ks, vs => .frz (o ()).1 (.dT (ks.zip vs))
def Fit : Kd → List V → Prop
  | .tup, _ => True
  | .lst, _ => True
  | .dK ks, vs => ks.length = vs.length ∧ ks.Nodup
  | .dT ks, vs => ks.length = vs.length ∧ ks.Nodup
  | .lkK o ks, vs => ks.length = vs.length ∧ ks.Nodup ∧ (o ()).2 = vs
  | .lkT o ks, vs => ks.length = vs.length ∧ ks.Nodup ∧ (o ()).2 = vs
def RdH (K : PySem.W.Frag) (H : Hp) (a : Addr) : Kd → List V → Prop
  | .tup, vs => Rd H a (.tup vs)
  | .lst, vs => Rd H a (.lst vs)
  | .dK ks, vs => Rd H a (.dK (ks.zip vs))
  | .dT ks, vs => Rd H a (.dT (ks.zip vs))
  | .lkK _ ks, vs => Rd H a (.dK (ks.zip vs))
  | .lkT _ ks, vs => Rd H a (.dT (ks.zip vs))

/-- a list of the written part -/
def KLst (K : PySem.W.Frag) (a : Addr) (xs : List V) : Prop := ∃ (o : Obj) (its : Array Value) (n : Nat), K.lookup a = some o ∧ o.cls = .type "list" ∧ o.dict = none ∧ o.data = .seq its n ∧ its.size ≤ sizeLine ∧ Vals xs its.toList
/-- how it is read -/
def RdK (K : PySem.W.Frag) (H : Hp) (a : Addr) (k : Kd) (vs : List V) : Prop := match k with
  | .lst => SqL K H a vs
  | k => RdH K H a k vs
theorem RdH.rdK {K : PySem.W.Frag} {H : Hp} {a : Addr} {k : Kd} {vs : List V} (h : RdH K H a k vs) : RdK K H a k vs := by
  cases k <;> first | exact h | exact Or.inl h
/-- a tuple: read only; o: one whose object is known, that has no attributes of its own -/
def TupAt (o : Bool) (H : Hp) (a : Addr) (vs : List V) : Prop := match o with
  | false => H a = some (.tup vs)
  | true => ∃ ob : Obj, H a = some (.frz ob (.tup vs)) ∧ ob.dict = none
theorem TupAt.rd {o : Bool} {H : Hp} {a : Addr} {vs : List V} (h : TupAt o H a vs) : Rd H a (.tup vs) := by
  cases o with
  | false => exact .inl h
  | true => obtain ⟨ob, e, _⟩ := h; exact .inr ⟨ob, e⟩
mutual
inductive Rep (K : PySem.W.Frag) (H : Hp) : V → D → List Addr → List Addr → Prop
  | at (v : V) : Rep K H v (.at v) [] []
  | tup {a : Addr} {vs : List V} {ds : List D} {o : Bool} {O Z : List Addr} : TupAt o H a vs → RepL K H vs ds O Z → Rep K H (.ref a) (.nd .tup o ds) O Z
  | own {a : Addr} {k : Kd} {vs : List V} {ds : List D} {O Z : List Addr} : k.isTup = false → H a = some (ho k vs) → Fit k vs → RepL K H vs ds O Z → Rep K H (.ref a) (.nd k true ds) (a :: O) Z
  | fro {a : Addr} {k : Kd} {vs : List V} {ds : List D} {Z : List Addr} : k.isTup = false → RdH K H a k vs → Fit k vs → RepL K H vs ds [] Z → Rep K H (.ref a) (.nd k false ds) [] (a :: Z)
  | kst {a : Addr} {vs : List V} {ds : List D} {Z : List Addr} : KLst K a vs → RepL K H vs ds [] Z → Rep K H (.ref a) (.nd .lst false ds) [] Z
inductive RepL (K : PySem.W.Frag) (H : Hp) : List V → List D → List Addr → List Addr → Prop
  | nil : RepL K H [] [] [] []
  | cons {v : V} {d : D} {vs : List V} {ds : List D} {O Z O' Z' : List Addr} : Rep K H v d O Z → RepL K H vs ds O' Z' → RepL K H (v :: vs) (d :: ds) (O ++ O') (Z ++ Z')
end

theorem RepL.length {K : PySem.W.Frag} {H : Hp} : ∀ {vs : List V} {ds : List D} {O Z : List Addr}, RepL K H vs ds O Z → vs.length = ds.length
  | _, _, _, _, .nil => rfl
  | _, _, _, _, .cons _ t => congrArg (· + 1) t.length

/-- what a change of the heap leaves: the owned addresses, the frozen ones as they are read, the tuples -/
structure Keep (K : PySem.W.Frag) (H H' : Hp) (O Z : List Addr) : Prop where
  own : ∀ a ∈ O, ∀ o, H a = some o → H' a = some o
  rd : ∀ a ∈ Z, ∀ u, Rd H a u → Rd H' a u
  tup : ∀ o a xs, TupAt o H a xs → TupAt o H' a xs
theorem Keep.sub {K : PySem.W.Frag} {H H' : Hp} {O Z O' Z' : List Addr} (k : Keep K H H' O Z) (ho : ∀ a ∈ O', a ∈ O) (hz : ∀ a ∈ Z', a ∈ Z) : Keep K H H' O' Z' :=
  ⟨fun a h => k.own a (ho a h), fun a h => k.rd a (hz a h), k.tup⟩
theorem RdH.keep {K : PySem.W.Frag} {H H' : Hp} {a : Addr} {k : Kd} {xs : List V} (hk : k.isTup = false) (h : RdH K H a k xs) (q : ∀ u, Rd H a u → Rd H' a u) : RdH K H' a k xs := by
  cases k with
  | tup => simp [Kd.isTup] at hk
  | lst => exact q _ h
  | dK ks => exact q _ h
  | dT ks => exact q _ h
  | lkK o ks => exact q _ h
  | lkT o ks => exact q _ h
mutual
theorem Rep.keep {K : PySem.W.Frag} {H H' : Hp} : ∀ {v : V} {d : D} {O Z : List Addr}, Rep K H v d O Z → Keep K H H' O Z → Rep K H' v d O Z
  | _, _, _, _, .at v, _ => .at v
  | _, _, _, _, .tup h t, k => .tup (k.tup _ _ _ h) (t.keep k)
  | _, _, _, _, .own h1 h2 h3 t, k => .own h1 (k.own _ List.mem_cons_self _ h2) h3 (t.keep (k.sub (fun _ h => List.mem_cons_of_mem _ h) fun _ h => h))
  | _, _, _, _, .kst h1 t, k => .kst h1 (t.keep k)
  | _, _, _, _, .fro h1 h2 h3 t, k => .fro h1 (RdH.keep h1 h2 (k.rd _ List.mem_cons_self)) h3 (t.keep (k.sub (fun _ h => h) fun _ h => List.mem_cons_of_mem _ h))
theorem RepL.keep {K : PySem.W.Frag} {H H' : Hp} : ∀ {vs : List V} {ds : List D} {O Z : List Addr}, RepL K H vs ds O Z → Keep K H H' O Z → RepL K H' vs ds O Z
  | _, _, _, _, .nil, _ => .nil
  | _, _, _, _, .cons h t, k => .cons (h.keep (k.sub (fun _ h => List.mem_append_left _ h) fun _ h => List.mem_append_left _ h)) (t.keep (k.sub (fun _ h => List.mem_append_right _ h) fun _ h => List.mem_append_right _ h))
end

mutual
theorem Rep.frozO {K : PySem.W.Frag} {H : Hp} : ∀ {v : V} {d : D} {O Z : List Addr}, Rep K H v d O Z → d.froz = true → O = []
  | _, _, _, _, .at v, _ => rfl
  | _, _, _, _, .tup h t, e => t.frozO (by simpa [D.froz] using e)
  | _, _, _, _, .own (k := k) h1 h2 h3 t, e => by cases k <;> simp_all [D.froz, Kd.isTup]
  | _, _, _, _, .fro h1 h2 h3 t, e => rfl
  | _, _, _, _, .kst h1 t, e => rfl
theorem RepL.frozO {K : PySem.W.Frag} {H : Hp} : ∀ {vs : List V} {ds : List D} {O Z : List Addr}, RepL K H vs ds O Z → frozL ds = true → O = []
  | _, _, _, _, .nil, _ => rfl
  | _, _, _, _, .cons h t, e => by
    simp only [frozL, Bool.and_eq_true] at e
    rw [h.frozO e.1, t.frozO e.2]; rfl
end
mutual
/-- freezing: what was owned is frozen from now on -/
theorem Rep.frz {K : PySem.W.Frag} {H : Hp} : ∀ {v : V} {d : D} {O Z : List Addr}, Rep K H v d O Z → ∃ Z', Rep K H v d.frz [] Z' ∧ ∀ a ∈ Z', a ∈ O ∨ a ∈ Z
  | _, _, _, _, .at v => ⟨[], .at v, fun _ h => by simp at h⟩
  | _, _, _, _, .tup (o := o) h t => by
    obtain ⟨Z', r, q⟩ := t.frz
    exact ⟨Z', by unfold D.frz; exact .tup h r, q⟩
  | _, _, _, _, .own (a := a) (k := k) (vs := vs) h1 h2 h3 t => by
    obtain ⟨Z', r, q⟩ := t.frz
    have hr : RdH K H a k vs := by
      cases k with
      | tup => simp [Kd.isTup] at h1
      | lst => exact Or.inl h2
      | dK ks => exact Or.inl h2
      | dT ks => exact Or.inl h2
      | lkK o ks => exact Or.inr ⟨_, h2⟩
      | lkT o ks => exact Or.inr ⟨_, h2⟩
    refine ⟨a :: Z', by unfold D.frz; rw [h1]; exact .fro h1 hr h3 r, fun b hb => ?_⟩
    · rcases List.mem_cons.mp hb with e | hb
      · exact .inl (by rw [e]; exact List.mem_cons_self)
      · exact (q b hb).imp (List.mem_cons_of_mem _) id
  | _, _, _, _, .kst h1 t => by
    obtain ⟨Z', r, q⟩ := t.frz
    exact ⟨Z', by unfold D.frz; exact .kst h1 r, fun b hb => q b hb⟩
  | _, _, _, _, .fro (a := a) h1 h2 h3 t => by
    obtain ⟨Z', r, q⟩ := t.frz
    refine ⟨a :: Z', by unfold D.frz; rw [h1]; exact .fro h1 h2 h3 r, fun b hb => .inr ?_⟩
    rcases List.mem_cons.mp hb with e | hb
    · rw [e]; exact List.mem_cons_self
    · rcases q b hb with z | z
      · simp at z
      · exact List.mem_cons_of_mem _ z
theorem RepL.frz {K : PySem.W.Frag} {H : Hp} : ∀ {vs : List V} {ds : List D} {O Z : List Addr}, RepL K H vs ds O Z → ∃ Z', RepL K H vs (frzL ds) [] Z' ∧ ∀ a ∈ Z', a ∈ O ∨ a ∈ Z
  | _, _, _, _, .nil => ⟨[], .nil, fun _ h => by simp at h⟩
  | _, _, _, _, .cons h t => by
    obtain ⟨Z1, r1, q1⟩ := h.frz
    obtain ⟨Z2, r2, q2⟩ := t.frz
    refine ⟨Z1 ++ Z2, .cons r1 r2, fun a ha => ?_⟩
    rcases List.mem_append.mp ha with ha | ha
    · exact (q1 a ha).imp (List.mem_append_left _) (List.mem_append_left _)
    · exact (q2 a ha).imp (List.mem_append_right _) (List.mem_append_right _)
end

/-! ## resources -/
/-- no tuple -/
def NT : HO → Prop
  | .tup _ => False
  | .frz _ (.tup _) => False
  | _ => True
inductive Res where
  | val (v : V) (d : D)
  | cell (a : Addr) (o : HO)
inductive Own1 (K : PySem.W.Frag) (H : Hp) : Res → List Addr → List Addr → Prop
  | val {v : V} {d : D} {O Z : List Addr} : Rep K H v d O Z → Own1 K H (.val v d) O Z
  | cell {a : Addr} {o : HO} : H a = some o → NT o → Own1 K H (.cell a o) [a] []
inductive Owns (K : PySem.W.Frag) (H : Hp) : List Res → List Addr → List Addr → Prop
  | nil : Owns K H [] [] []
  | cons {r : Res} {L : List Res} {O Z O' Z' : List Addr} : Own1 K H r O Z → Owns K H L O' Z' → Owns K H (r :: L) (O ++ O') (Z ++ Z')
theorem Own1.keep {K : PySem.W.Frag} {H H' : Hp} {r : Res} {O Z : List Addr} (h : Own1 K H r O Z) (k : Keep K H H' O Z) : Own1 K H' r O Z := by
  cases h with
  | val h => exact .val (h.keep k)
  | cell h m => exact .cell (k.own _ List.mem_cons_self _ h) m
theorem Owns.keep {K : PySem.W.Frag} {H H' : Hp} : ∀ {L : List Res} {O Z : List Addr}, Owns K H L O Z → Keep K H H' O Z → Owns K H' L O Z
  | _, _, _, .nil, _ => .nil
  | _, _, _, .cons h t, k => .cons (h.keep (k.sub (fun _ h => List.mem_append_left _ h) fun _ h => List.mem_append_left _ h)) (t.keep (k.sub (fun _ h => List.mem_append_right _ h) fun _ h => List.mem_append_right _ h))
theorem Owns.perm {K : PySem.W.Frag} {H : Hp} {L L' : List Res} (p : L.Perm L') : ∀ {O Z : List Addr}, Owns K H L O Z → ∃ O' Z', Owns K H L' O' Z' ∧ O.Perm O' ∧ Z.Perm Z' := by
  induction p with
  | nil => exact fun h => ⟨_, _, h, .refl _, .refl _⟩
  | cons r p ih =>
    intro O Z h
    cases h with
    | cons h1 h2 =>
      obtain ⟨O', Z', h3, po, pz⟩ := ih h2
      exact ⟨_, _, .cons h1 h3, po.append_left _, pz.append_left _⟩
  | swap r r' L =>
    intro O Z h
    cases h with
    | cons h1 h2 =>
      cases h2 with
      | cons h2 h3 =>
        refine ⟨_, _, .cons h2 (.cons h1 h3), ?_, ?_⟩
        · rw [← List.append_assoc, ← List.append_assoc]; exact List.perm_append_comm.append_right _
        · rw [← List.append_assoc, ← List.append_assoc]; exact List.perm_append_comm.append_right _
  | trans p q ih1 ih2 =>
    intro O Z h
    obtain ⟨O1, Z1, h1, p1, q1⟩ := ih1 h
    obtain ⟨O2, Z2, h2, p2, q2⟩ := ih2 h1
    exact ⟨O2, Z2, h2, p1.trans p2, q1.trans q2⟩
theorem Owns.app {K : PySem.W.Frag} {H : Hp} : ∀ {L L' : List Res} {O Z O' Z' : List Addr}, Owns K H L O Z → Owns K H L' O' Z' → Owns K H (L ++ L') (O ++ O') (Z ++ Z')
  | _, _, _, _, _, _, .nil, h => h
  | _, _, _, _, _, _, .cons h t, h' => by
    rw [List.append_assoc, List.append_assoc]
    exact .cons h (t.app h')
theorem Owns.unapp {K : PySem.W.Frag} {H : Hp} : ∀ {L L' : List Res} {O Z : List Addr}, Owns K H (L ++ L') O Z → ∃ O1 Z1 O2 Z2, Owns K H L O1 Z1 ∧ Owns K H L' O2 Z2 ∧ O = O1 ++ O2 ∧ Z = Z1 ++ Z2
  | [], _, _, _, h => ⟨[], [], _, _, .nil, h, rfl, rfl⟩
  | r :: L, L', _, _, .cons h t => by
    obtain ⟨O1, Z1, O2, Z2, h1, h2, rfl, rfl⟩ := Owns.unapp (L := L) t
    exact ⟨_, _, O2, Z2, .cons h h1, h2, (List.append_assoc ..).symm, (List.append_assoc ..).symm⟩
def vals (vs : List V) (ds : List D) : List Res := List.zipWith Res.val vs ds
theorem Owns.of_repL {K : PySem.W.Frag} {H : Hp} : ∀ {vs : List V} {ds : List D} {O Z : List Addr}, RepL K H vs ds O Z → Owns K H (vals vs ds) O Z
  | _, _, _, _, .nil => .nil
  | _, _, _, _, .cons h t => .cons (.val h) (Owns.of_repL t)
theorem Owns.repL {K : PySem.W.Frag} {H : Hp} : ∀ {vs : List V} {ds : List D} {O Z : List Addr}, vs.length = ds.length → Owns K H (vals vs ds) O Z → RepL K H vs ds O Z
  | [], [], _, _, _, h => by cases h; exact .nil
  | v :: vs, d :: ds, _, _, e, h => by
    cases h with
    | cons h1 h2 =>
      cases h1 with
      | val h1 => exact .cons h1 (Owns.repL (Nat.succ.inj e) h2)
  | [], _ :: _, _, _, e, _ => by simp at e
  | _ :: _, [], _, _, e, _ => by simp at e
/-- what is owned stands apart, and nothing frozen is owned -/
def Good (K : PySem.W.Frag) (H : Hp) (L : List Res) : Prop := ∃ O Z, Owns K H L O Z ∧ O.Nodup ∧ ∀ a ∈ O, a ∉ Z
section
variable {K : PySem.W.Frag} {H H' : Hp} {L L' : List Res} {r : Res} {v : V} {d : D} {a p : Addr} {vs : List V} {ds : List D}
theorem Good.perm (g : Good K H L) (e : L.Perm L') : Good K H L' := by
  obtain ⟨O, Z, h, nd, ap⟩ := g
  obtain ⟨O', Z', h', po, pz⟩ := h.perm e
  exact ⟨O', Z', h', po.nodup_iff.mp nd, fun a ha hz => ap a (po.mem_iff.mpr ha) (pz.mem_iff.mpr hz)⟩
theorem Good.drop (g : Good K H (r :: L)) : Good K H L := by
  obtain ⟨O, Z, h, nd, ap⟩ := g
  cases h with
  | cons h1 h2 => exact ⟨_, _, h2, (List.nodup_append.mp nd).2.1, fun a ha hz => ap a (List.mem_append_right _ ha) (List.mem_append_right _ hz)⟩
theorem Good.dropL (g : Good K H (L ++ L')) : Good K H L' := by
  induction L with
  | nil => exact g
  | cons r L ih => exact ih (Good.drop g)
theorem Good.left (g : Good K H (L ++ L')) : Good K H L := Good.dropL (g.perm List.perm_append_comm)
theorem Good.keep (g : Good K H L) (k : ∀ O Z, Owns K H L O Z → Keep K H H' O Z) : Good K H' L := by
  obtain ⟨O, Z, h, nd, ap⟩ := g
  exact ⟨O, Z, h.keep (k _ _ h), nd, ap⟩
theorem Rd.same {u : HO} (s : Same H H') (h : Rd H a u) : Rd H' a u := h.imp (s _ _) fun ⟨o, e⟩ => ⟨o, s _ _ e⟩
theorem TupAt.same {o : Bool} (s : Same H H') (h : TupAt o H a vs) : TupAt o H' a vs := by
  cases o with
  | false => exact s _ _ h
  | true => obtain ⟨ob, e, d⟩ := h; exact ⟨ob, s _ _ e, d⟩
theorem Keep.same {O Z : List Addr} (s : Same H H') : Keep K H H' O Z := ⟨fun _ _ _ h => s _ _ h, fun _ _ _ h => Rd.same s h, fun _ _ _ h => TupAt.same s h⟩
theorem Good.same (g : Good K H L) (s : Same H H') : Good K H' L := g.keep fun _ _ _ => .same s
theorem same_new {o : HO} (h : H p = none) : Same H (upd H p o) := fun b x e => by
  rw [upd_ne (ne_of_none e h)]; exact e
theorem RdH.here {k : Kd} (hk : k.isTup = false) (h : RdH K H a k vs) : ∃ o, H a = some o := by
  cases k with
  | tup => simp [Kd.isTup] at hk
  | lst => exact h.elim (fun e => ⟨_, e⟩) fun ⟨_, e⟩ => ⟨_, e⟩
  | dK ks => exact h.elim (fun e => ⟨_, e⟩) fun ⟨_, e⟩ => ⟨_, e⟩
  | dT ks => exact h.elim (fun e => ⟨_, e⟩) fun ⟨_, e⟩ => ⟨_, e⟩
  | lkK o ks => exact h.elim (fun e => ⟨_, e⟩) fun ⟨_, e⟩ => ⟨_, e⟩
  | lkT o ks => exact h.elim (fun e => ⟨_, e⟩) fun ⟨_, e⟩ => ⟨_, e⟩
mutual
theorem Rep.here : ∀ {v : V} {d : D} {O Z : List Addr}, Rep K H v d O Z → ∀ a ∈ O ++ Z, ∃ o, H a = some o
  | _, _, _, _, .at v, _, h => by simp at h
  | _, _, _, _, .tup _ t, b, h => t.here b h
  | _, _, _, _, .own h1 h2 h3 t, b, h => by
    rcases List.mem_cons.mp h with rfl | h
    · exact ⟨_, h2⟩
    · exact t.here b h
  | _, _, _, _, .kst h1 t, b, h => t.here b h
  | _, _, _, _, .fro h1 h2 h3 t, b, h => by
    rcases List.mem_cons.mp h with rfl | h
    · exact h2.here h1
    · exact t.here b h
theorem RepL.here : ∀ {vs : List V} {ds : List D} {O Z : List Addr}, RepL K H vs ds O Z → ∀ a ∈ O ++ Z, ∃ o, H a = some o
  | _, _, _, _, .nil, _, h => by simp at h
  | _, _, _, _, .cons h t, b, hb => by
    simp only [List.mem_append] at hb
    rcases hb with (hb | hb) | hb | hb
    · exact h.here b (List.mem_append_left _ hb)
    · exact t.here b (List.mem_append_left _ hb)
    · exact h.here b (List.mem_append_right _ hb)
    · exact t.here b (List.mem_append_right _ hb)
end
theorem Own1.here {O Z : List Addr} (h : Own1 K H r O Z) : ∀ a ∈ O ++ Z, ∃ o, H a = some o := by
  cases h with
  | val h => exact h.here
  | cell h _ => intro a ha; simp at ha; subst ha; exact ⟨_, h⟩
theorem Owns.here : ∀ {L : List Res} {O Z : List Addr}, Owns K H L O Z → ∀ a ∈ O ++ Z, ∃ o, H a = some o
  | _, _, _, .nil, a, ha => by simp at ha
  | _, _, _, .cons h t, a, ha => by
    simp only [List.mem_append] at ha
    rcases ha with (ha | ha) | ha | ha
    · exact h.here a (List.mem_append_left _ ha)
    · exact t.here a (List.mem_append_left _ ha)
    · exact h.here a (List.mem_append_right _ ha)
    · exact t.here a (List.mem_append_right _ ha)
/-- a new cell -/
theorem Good.alloc {o : HO} (g : Good K H L) (hp : H p = none) (m : NT o) : Good K (upd H p o) (.cell p o :: L) := by
  obtain ⟨O, Z, h, nd, ap⟩ := g
  have hA : p ∉ O ++ Z := fun hm => by
    obtain ⟨o', e⟩ := h.here p hm
    rw [hp] at e; cases e
  have hO : p ∉ O := fun hm => hA (List.mem_append_left _ hm)
  have hZ : p ∉ Z := fun hm => hA (List.mem_append_right _ hm)
  refine ⟨[p] ++ O, [] ++ Z, .cons (.cell upd_same m) (h.keep (.same (same_new hp))), List.nodup_cons.mpr ⟨hO, nd⟩, fun a ha hz' => ?_⟩
  rcases List.mem_cons.mp ha with rfl | ha
  · exact hZ hz'
  · exact ap a ha hz'
/-- a cell is written -/
theorem Good.write {o o' : HO} (g : Good K H (.cell a o :: L)) (m : NT o') : Good K (upd H a o') (.cell a o' :: L) := by
  obtain ⟨O, Z, h, nd, ap⟩ := g
  cases h with
  | cons h1 h2 =>
    cases h1 with
    | cell e m0 =>
      rename_i O' Z'
      have nO : a ∉ O' := (List.nodup_cons.mp nd).1
      have nZ : a ∉ Z' := fun hz => ap a List.mem_cons_self (List.mem_append_right _ hz)
      refine ⟨_, _, .cons (.cell upd_same m) (h2.keep ⟨fun b hb o h => ?_, fun b hb u h => ?_, fun ob b xs h => ?_⟩), nd, ap⟩
      · rw [upd_ne (show b ≠ a from fun e => nO (by rw [← e]; exact hb))]; exact h
      · have ne : b ≠ a := fun e => nZ (by rw [← e]; exact hb)
        exact h.imp (fun z => by rw [upd_ne ne]; exact z) fun ⟨o, z⟩ => ⟨o, by rw [upd_ne ne]; exact z⟩
      · have ne : b ≠ a := fun e' => by
          subst e'
          cases ob with
          | false => rw [show H b = _ from h] at e; cases e; exact m0
          | true => obtain ⟨ob, h, _⟩ := h; rw [h] at e; cases e; exact m0
        cases ob with
        | false => show (upd H a o') b = _; rw [upd_ne ne]; exact h
        | true => obtain ⟨ob, h, hd⟩ := h; exact ⟨ob, by rw [upd_ne ne]; exact h, hd⟩
end
end Z
set_option Elab.async false
set_option linter.all false
set_option maxRecDepth 100000
set_option autoImplicit false
namespace Z
open PySem PySem.Spec PyProof.Rows L2
section
variable {K : PySem.W.Frag} {H H' : Hp} {L L' : List Res} {r : Res} {v : V} {d : D} {a p : Addr} {vs : List V} {ds : List D} {k : Kd} {o : Bool}
theorem mut_ho (hk : k.isTup = false) (vs : List V) : NT (ho k vs) := by cases k <;> simp_all [Kd.isTup, ho, NT]
theorem Good.unpack (hk : k.isTup = false) (g : Good K H (.val v (.nd k true ds) :: L)) : ∃ a vs, v = .ref a ∧ vs.length = ds.length ∧ Fit k vs ∧ H a = some (ho k vs) ∧ Good K H (.cell a (ho k vs) :: (vals vs ds ++ L)) := by
  obtain ⟨O, Z, h, nd, ap⟩ := g
  cases h with
  | cons h1 h2 =>
    cases h1 with
    | val h1 =>
      cases h1 with
      | tup => simp [Kd.isTup] at hk
      | own e1 e2 e3 t =>
        rename_i a vs O1
        refine ⟨a, vs, rfl, t.length, e3, e2, _, _, .cons (.cell e2 (mut_ho hk vs)) ((Owns.of_repL t).app h2), ?_, ?_⟩
        · simpa using nd
        · simpa using ap
theorem Good.pack (hk : k.isTup = false) (hl : vs.length = ds.length) (hf : Fit k vs) (g : Good K H (.cell a (ho k vs) :: (vals vs ds ++ L))) : Good K H (.val (.ref a) (.nd k true ds) :: L) := by
  obtain ⟨O, Z, h, nd, ap⟩ := g
  cases h with
  | cons h1 h2 =>
    cases h1 with
    | cell e m =>
      obtain ⟨O1, Z1, O2, Z2, q1, q2, rfl, rfl⟩ := h2.unapp
      refine ⟨_, _, .cons (.val (.own hk e hf (q1.repL hl))) q2, ?_, ?_⟩
      · simpa using nd
      · simpa using ap
theorem Good.untup (g : Good K H (.val v (.nd .tup o ds) :: L)) : ∃ a vs, v = .ref a ∧ vs.length = ds.length ∧ TupAt o H a vs ∧ Good K H (vals vs ds ++ L) := by
  obtain ⟨O, Z, h, nd, ap⟩ := g
  cases h with
  | cons h1 h2 =>
    cases h1 with
    | val h1 =>
      cases h1 with
      | tup e t => exact ⟨_, _, rfl, t.length, e, _, _, (Owns.of_repL t).app h2, nd, ap⟩
      | own e1 => simp [Kd.isTup] at e1
      | fro e1 => simp [Kd.isTup] at e1
theorem Good.mktup {o : Bool} (hl : vs.length = ds.length) (e : TupAt o H a vs) (g : Good K H (vals vs ds ++ L)) : Good K H (.val (.ref a) (.nd .tup o ds) :: L) := by
  obtain ⟨O, Z, h, nd, ap⟩ := g
  obtain ⟨O1, Z1, O2, Z2, q1, q2, rfl, rfl⟩ := h.unapp
  exact ⟨_, _, .cons (.val (.tup e (q1.repL hl))) q2, nd, ap⟩
theorem Good.dup (hd : d.froz = true) (g : Good K H (.val v d :: L)) : Good K H (.val v d :: .val v d :: L) := by
  obtain ⟨O, Z, h, nd, ap⟩ := g
  cases h with
  | cons h1 h2 =>
    cases h1 with
    | val h1 =>
      have e := h1.frozO hd
      subst e
      refine ⟨_, _, .cons (.val h1) (.cons (.val h1) h2), nd, fun a ha hz => ap a ha ?_⟩
      rcases List.mem_append.mp hz with hz | hz
      · exact List.mem_append_left _ hz
      · exact hz
theorem Good.frz (g : Good K H (.val v d :: L)) : Good K H (.val v d.frz :: L) := by
  obtain ⟨O, Z, h, nd, ap⟩ := g
  cases h with
  | cons h1 h2 =>
    cases h1 with
    | val h1 =>
      obtain ⟨Z', r, q⟩ := h1.frz
      refine ⟨_, _, .cons (.val r) h2, (List.nodup_append.mp nd).2.1, fun a ha hz => ?_⟩
      rcases List.mem_append.mp hz with hz | hz
      · rcases q a hz with z | z
        · exact (List.nodup_append.mp nd).2.2 a z a ha rfl
        · exact ap a (List.mem_append_right _ ha) (List.mem_append_left _ z)
      · exact ap a (List.mem_append_right _ ha) (List.mem_append_right _ hz)
theorem Good.at {w : V} (g : Good K H (.val v (.at w) :: L)) : v = w := by
  obtain ⟨O, Z, h, nd, ap⟩ := g
  cases h with
  | cons h1 h2 =>
    cases h1 with
    | val h1 => cases h1; rfl
theorem Good.mkat {w : V} (g : Good K H L) : Good K H (.val w (.at w) :: L) := by
  obtain ⟨O, Z, h, nd, ap⟩ := g
  exact ⟨_, _, .cons (.val (.at w)) h, nd, ap⟩
/-- a frozen list or dict: its items, and itself again -/
theorem Good.unfro (hk : k.isTup = false) (g : Good K H (.val v (.nd k false ds) :: L)) : ∃ a vs, v = .ref a ∧ vs.length = ds.length ∧ Fit k vs ∧ RdK K H a k vs ∧ Good K H (vals vs ds ++ .val v (.nd k false ds) :: L) := by
  obtain ⟨O, Z, h, nd, ap⟩ := g
  cases h with
  | cons h1 h2 =>
    cases h1 with
    | val h1 =>
      cases h1 with
      | tup => simp [Kd.isTup] at hk
      | fro e1 e2 e3 t =>
        rename_i a vs Z1
        refine ⟨a, vs, rfl, t.length, e3, e2.rdK, _, _, (Owns.of_repL t).app (.cons (.val (.fro e1 e2 e3 t)) h2), by simpa using nd, fun b hb hz => ap b (by simpa using hb) ?_⟩
        simp only [List.mem_append, List.mem_cons] at hz ⊢
        rcases hz with z | z
        · exact .inl (.inr z)
        · exact z
      | kst e t =>
        refine ⟨_, _, rfl, t.length, trivial, .inr e, _, _, (Owns.of_repL t).app (.cons (.val (.kst e t)) h2), by simpa using nd, fun b hb hz => ap b (by simpa using hb) ?_⟩
        simp only [List.mem_append] at hz ⊢
        rcases hz with z | z
        · exact .inl z
        · exact z

/-! ### what is seen: part of what is held -/
def In (K : PySem.W.Frag) (H : Hp) (L : List Res) (v : V) (d : D) : Prop := ∃ O Z OL ZL, (Owns K H L OL ZL ∧ OL.Nodup ∧ ∀ a ∈ OL, a ∉ ZL) ∧ Rep K H v d O Z ∧ (∀ a ∈ O, a ∈ OL) ∧ (∀ a ∈ Z, a ∈ ZL)
theorem Owns.of_mem : ∀ {L : List Res} {O Z : List Addr}, Owns K H L O Z → Res.val v d ∈ L → ∃ O' Z', Rep K H v d O' Z' ∧ (∀ a ∈ O', a ∈ O) ∧ (∀ a ∈ Z', a ∈ Z)
  | _, _, _, .nil, h => by simp at h
  | _, _, _, .cons h1 h2, h => by
    rcases List.mem_cons.mp h with rfl | h
    · cases h1 with
      | val h1 => exact ⟨_, _, h1, fun _ h => List.mem_append_left _ h, fun _ h => List.mem_append_left _ h⟩
    · obtain ⟨O', Z', r, q1, q2⟩ := Owns.of_mem h2 h
      exact ⟨O', Z', r, fun a h => List.mem_append_right _ (q1 a h), fun a h => List.mem_append_right _ (q2 a h)⟩
theorem Good.in (g : Good K H L) (h : Res.val v d ∈ L) : In K H L v d := by
  obtain ⟨O, Z, q⟩ := g
  obtain ⟨O', Z', r, q1, q2⟩ := q.1.of_mem h
  exact ⟨O', Z', O, Z, q, r, q1, q2⟩
theorem In.at {w : V} (h : In K H L v (.at w)) : v = w := by
  obtain ⟨_, _, _, _, _, r, _, _⟩ := h
  cases r; rfl
theorem RepL.get : ∀ {vs : List V} {ds : List D} {O Z : List Addr} {i : Nat} {d : D}, RepL K H vs ds O Z → ds[i]? = some d → ∃ v O' Z', vs[i]? = some v ∧ Rep K H v d O' Z' ∧ (∀ a ∈ O', a ∈ O) ∧ (∀ a ∈ Z', a ∈ Z)
  | _, _, _, _, _, _, .nil, e => by simp at e
  | _, _, _, _, 0, _, .cons h t, e => by
    obtain rfl : _ = _ := by simpa using e
    exact ⟨_, _, _, rfl, h, fun _ h => List.mem_append_left _ h, fun _ h => List.mem_append_left _ h⟩
  | _, _, _, _, i + 1, _, .cons h t, e => by
    obtain ⟨v, O', Z', e1, r, q1, q2⟩ := RepL.get (i := i) t (by simpa using e)
    exact ⟨v, O', Z', by simpa using e1, r, fun a h => List.mem_append_right _ (q1 a h), fun a h => List.mem_append_right _ (q2 a h)⟩
/-- a seen list, tuple or dict: how it is read, and its items are seen too -/
theorem In.nd (h : In K H L v (.nd k o ds)) : ∃ a vs, v = .ref a ∧ vs.length = ds.length ∧ RdK K H a k vs ∧ ∀ (i : Nat) (d : D), ds[i]? = some d → ∃ w, vs[i]? = some w ∧ In K H L w d := by
  obtain ⟨O, Z, OL, ZL, q, r, h1, h2⟩ := h
  have fin : ∀ {vs : List V} {O1 Z1 : List Addr}, RepL K H vs ds O1 Z1 → (∀ a ∈ O1, a ∈ OL) → (∀ a ∈ Z1, a ∈ ZL) → ∀ (i : Nat) (d : D), ds[i]? = some d → ∃ w, vs[i]? = some w ∧ In K H L w d := by
    intro vs O1 Z1 t s1 s2 i d e
    obtain ⟨w, O', Z', e1, r', q1, q2⟩ := t.get e
    exact ⟨w, e1, O', Z', OL, ZL, q, r', fun a h => s1 a (q1 a h), fun a h => s2 a (q2 a h)⟩
  cases r with
  | tup e t => exact ⟨_, _, rfl, t.length, e.rd, fin t h1 h2⟩
  | own e1 e2 e3 t =>
    refine ⟨_, _, rfl, t.length, ?_, fin t (fun a h => h1 a (List.mem_cons_of_mem _ h)) h2⟩
    cases k with
    | tup => simp [Kd.isTup] at e1
    | lst => exact Or.inl (Or.inl e2)
    | dK ks => exact Or.inl e2
    | dT ks => exact Or.inl e2
    | lkK o ks => exact Or.inr ⟨_, e2⟩
    | lkT o ks => exact Or.inr ⟨_, e2⟩
  | fro e1 e2 e3 t => exact ⟨_, _, rfl, t.length, e2.rdK, fin t (fun a h => by simp at h) (fun a h => h2 a (List.mem_cons_of_mem _ h))⟩
  | kst e t => exact ⟨_, _, rfl, t.length, .inr e, fin t (fun a h => by simp at h) h2⟩
theorem In.tupAt {o : Bool} (h : In K H L v (.nd .tup o ds)) : ∃ a vs, v = .ref a ∧ vs.length = ds.length ∧ TupAt o H a vs ∧ ∀ (i : Nat) (d : D), ds[i]? = some d → ∃ w, vs[i]? = some w ∧ In K H L w d := by
  obtain ⟨O, Z, OL, ZL, q, r, h1, h2⟩ := h
  cases r with
  | tup e t =>
    refine ⟨_, _, rfl, t.length, e, fun i d e => ?_⟩
    obtain ⟨w, O', Z', e1, r', q1, q2⟩ := t.get e
    exact ⟨w, e1, O', Z', OL, ZL, q, r', fun a h => h1 a (q1 a h), fun a h => h2 a (q2 a h)⟩
  | own e1 => simp [Kd.isTup] at e1
  | fro e1 => simp [Kd.isTup] at e1
theorem In.good (h : In K H L v d) : Good K H L := let ⟨_, _, OL, ZL, q, _⟩ := h; ⟨OL, ZL, q⟩
/-- what is seen and frozen may be held -/
theorem In.hold (h : In K H L v d) (hd : d.froz = true) : Good K H (.val v d :: L) := by
  obtain ⟨O, Z, OL, ZL, ⟨q, nd, ap⟩, r, h1, h2⟩ := h
  have e := r.frozO hd
  subst e
  refine ⟨_, _, .cons (.val r) q, nd, fun a ha hz => ?_⟩
  rcases List.mem_append.mp hz with hz | hz
  · exact ap a ha (h2 a hz)
  · exact ap a ha hz
end

/-! ## the slots by value -/
abbrev Env := List (Option D)
def envR : L2.St → Env → List Res
  | some v :: σ, some d :: δ => .val v d :: envR σ δ
  | _ :: σ, _ :: δ => envR σ δ
  | _, _ => []
/-- what holds of the slots: σ by addresses, δ by value; pn: slots whose value stays the very object; Fr: what else is held -/
structure Sim (K : PySem.W.Frag) (pn : List (Nat × V)) (σ : L2.St) (δ : Env) (Fr : List Res) (H : Hp) : Prop where
  len : σ.length = δ.length
  ok : ∀ (i : Nat) (d : D), δ[i]? = some (some d) → ∃ v, σ[i]? = some (some v)
  pin : ∀ p ∈ pn, σ[p.1]? = some (some p.2)
  good : Good K H (envR σ δ ++ Fr)
theorem envR_nil {σ : L2.St} : envR σ [] = [] := by cases σ with
  | nil => rfl
  | cons v σ => cases v <;> rfl
theorem envR_none {v : Option V} {σ : L2.St} {δ : Env} : envR (v :: σ) (none :: δ) = envR σ δ := by cases v <;> rfl
theorem envR_none' {d : Option D} {σ : L2.St} {δ : Env} : envR (none :: σ) (d :: δ) = envR σ δ := by cases d <;> rfl
/-- slot i is taken out -/
theorem envR_take : ∀ {σ : L2.St} {δ : Env} {i : Nat} {v : V} {d : D}, σ[i]? = some (some v) → δ[i]? = some (some d) → (envR σ δ).Perm (.val v d :: envR σ (δ.set i none))
  | [], _, _, _, _, h, _ => by simp at h
  | _ :: _, [], _, _, _, _, h => by simp at h
  | w :: σ, e :: δ, 0, v, d, h1, h2 => by
    obtain rfl : w = some v := by simpa using h1
    obtain rfl : e = some d := by simpa using h2
    exact .refl _
  | w :: σ, e :: δ, i + 1, v, d, h1, h2 => by
    have ih := envR_take (σ := σ) (δ := δ) (i := i) (v := v) (d := d) (by simpa using h1) (by simpa using h2)
    rw [List.set_cons_succ]
    cases w with
    | none => rw [envR_none', envR_none']; exact ih
    | some w =>
      cases e with
      | none => rw [envR_none, envR_none]; exact ih
      | some e => exact (ih.cons _).trans (.swap ..)
theorem envR_set : ∀ {σ : L2.St} {δ : Env} {i : Nat} {v : V} {d : D}, i < σ.length → i < δ.length → (envR (σ.set i (some v)) (δ.set i (some d))).Perm (.val v d :: envR σ (δ.set i none))
  | [], _, _, _, _, h, _ => by simp at h
  | _ :: _, [], _, _, _, _, h => by simp at h
  | w :: σ, e :: δ, 0, v, d, h1, h2 => by
    show (Res.val v d :: envR σ δ).Perm (.val v d :: envR (w :: σ) (none :: δ))
    rw [envR_none]
  | w :: σ, e :: δ, i + 1, v, d, h1, h2 => by
    have ih := envR_set (σ := σ) (δ := δ) (i := i) (v := v) (d := d) (by simpa using h1) (by simpa using h2)
    rw [List.set_cons_succ, List.set_cons_succ, List.set_cons_succ]
    cases w with
    | none => rw [envR_none', envR_none']; exact ih
    | some w =>
      cases e with
      | none => rw [envR_none, envR_none]; exact ih
      | some e => exact (ih.cons _).trans (.swap ..)
theorem envR_mem {σ : L2.St} {δ : Env} {i : Nat} {v : V} {d : D} (h1 : σ[i]? = some (some v)) (h2 : δ[i]? = some (some d)) : Res.val v d ∈ envR σ δ := (envR_take h1 h2).mem_iff.mpr List.mem_cons_self
/-- a slot that is emptied: less is held -/
theorem envR_less : ∀ {σ : L2.St} {δ : Env} (i : Nat), ∃ R, (envR σ δ).Perm (R ++ envR σ (δ.set i none))
  | [], δ, i => ⟨[], by cases δ <;> cases i <;> exact .refl _⟩
  | w :: σ, [], i => ⟨[], .refl _⟩
  | w :: σ, e :: δ, 0 => by
    cases w with
    | none => exact ⟨[], by rw [List.set_cons_zero, envR_none', envR_none']; exact .refl _⟩
    | some w =>
      cases e with
      | none => exact ⟨[], .refl _⟩
      | some e => exact ⟨[.val w e], .refl _⟩
  | w :: σ, e :: δ, i + 1 => by
    obtain ⟨R, p⟩ := envR_less (σ := σ) (δ := δ) i
    rw [List.set_cons_succ]
    cases w with
    | none => exact ⟨R, by rw [envR_none', envR_none']; exact p⟩
    | some w =>
      cases e with
      | none => exact ⟨R, by rw [envR_none, envR_none]; exact p⟩
      | some e => exact ⟨R, (p.cons _).trans List.perm_middle.symm⟩
section
variable {K : PySem.W.Frag} {pn : List (Nat × V)} {σ : L2.St} {δ : Env} {Fr Fr' : List Res} {H H' : Hp} {v : V} {d : D} {i : Nat}
theorem Sim.perm (s : Sim K pn σ δ Fr H) (p : Fr.Perm Fr') : Sim K pn σ δ Fr' H := ⟨s.len, s.ok, s.pin, s.good.perm (p.append_left _)⟩
theorem Sim.get (s : Sim K pn σ δ Fr H) (h : δ[i]? = some (some d)) : ∃ v, σ[i]? = some (some v) ∧ In K H (envR σ δ ++ Fr) v d := by
  obtain ⟨v, e⟩ := s.ok i d h
  exact ⟨v, e, s.good.in (List.mem_append_left _ (envR_mem e h))⟩
theorem ok_none {σ : L2.St} {δ : Env} (h : ∀ (i : Nat) (d : D), δ[i]? = some (some d) → ∃ v, σ[i]? = some (some v)) (j : Nat) : ∀ (i : Nat) (d : D), (δ.set j none)[i]? = some (some d) → ∃ v, σ[i]? = some (some v) := fun i d e => by
  by_cases hj : j = i
  · subst hj
    by_cases hl : j < δ.length
    · rw [List.getElem?_set_self hl] at e; cases e
    · rw [List.getElem?_eq_none (by simpa using hl)] at e; cases e
  · rw [List.getElem?_set_ne hj] at e; exact h i d e
/-- the value of slot i is taken out of it -/
theorem Sim.out (s : Sim K pn σ δ Fr H) (h : δ[i]? = some (some d)) : ∃ v, σ[i]? = some (some v) ∧ Sim K pn σ (δ.set i none) (.val v d :: Fr) H := by
  obtain ⟨v, e⟩ := s.ok i d h
  refine ⟨v, e, by simpa using s.len, ok_none s.ok i, s.pin, s.good.perm ?_⟩
  exact ((envR_take e h).append_right _).trans List.perm_middle.symm
/-- slot i forgets its value -/
theorem Sim.lose (s : Sim K pn σ δ Fr H) (i : Nat) : Sim K pn σ (δ.set i none) Fr H := by
  obtain ⟨R, p⟩ := envR_less (σ := σ) (δ := δ) i
  refine ⟨by simpa using s.len, ok_none s.ok i, s.pin, Good.dropL (L := R) ?_⟩
  rw [← List.append_assoc]
  exact s.good.perm (p.append_right _)
/-- .. and back into the slot where that very object stands -/
theorem Sim.back (s : Sim K pn σ δ (.val v d :: Fr) H) (h : σ[i]? = some (some v)) : Sim K pn σ (δ.set i (some d)) Fr H := by
  have hl : i < σ.length := (List.getElem?_eq_some_iff.mp h).1
  have s' := s.lose i
  refine ⟨by simpa using s.len, fun j e he => ?_, s.pin, s'.good.perm ?_⟩
  · by_cases hj : i = j
    · subst hj; exact ⟨v, h⟩
    · rw [List.getElem?_set_ne hj] at he; exact s.ok j e he
  · have q := envR_set (σ := σ) (δ := δ) (i := i) (v := v) (d := d) hl (by rw [← s.len]; exact hl)
    have e : σ.set i (some v) = σ := by
      apply List.ext_getElem?
      intro j
      by_cases hj : i = j
      · subst hj; rw [List.getElem?_set_self hl, h]
      · rw [List.getElem?_set_ne hj]
    rw [e] at q
    exact List.perm_middle.trans (q.symm.append_right _)
/-- a value is stored in slot i -/
theorem Sim.put (s : Sim K pn σ δ (.val v d :: Fr) H) (hi : i < δ.length) (hp : ∀ p ∈ pn, p.1 ≠ i) : Sim K pn (σ.set i (some v)) (δ.set i (some d)) Fr H := by
  have hl : i < σ.length := by rw [s.len]; exact hi
  refine ⟨by simpa using s.len, fun j e he => ?_, fun p hm => ?_, (s.lose i).good.perm ?_⟩
  · by_cases hj : i = j
    · subst hj; exact ⟨v, List.getElem?_set_self hl⟩
    · rw [List.getElem?_set_ne hj] at he ⊢; exact s.ok j e he
  · rw [List.getElem?_set_ne (Ne.symm (hp p hm))]; exact s.pin p hm
  · exact List.perm_middle.trans ((envR_set hl hi).symm.append_right _)
theorem Sim.drop {r : Res} (s : Sim K pn σ δ (r :: Fr) H) : Sim K pn σ δ Fr H := ⟨s.len, s.ok, s.pin, Good.drop (s.good.perm List.perm_middle)⟩
theorem Sim.dropL (s : Sim K pn σ δ (Fr ++ Fr') H) : Sim K pn σ δ Fr' H := by
  induction Fr with
  | nil => exact s
  | cons r L ih => exact ih (Sim.drop s)
/-- work on what is held, at its front -/
theorem Sim.front (s : Sim K pn σ δ Fr H) : Good K H (Fr ++ envR σ δ) := s.good.perm List.perm_append_comm
theorem Sim.of (s : Sim K pn σ δ Fr H) (g : Good K H' (Fr' ++ envR σ δ)) : Sim K pn σ δ Fr' H' := ⟨s.len, s.ok, s.pin, g.perm List.perm_append_comm⟩
end
end Z
set_option Elab.async false
set_option linter.all false
set_option maxRecDepth 100000
set_option autoImplicit false
namespace Z
open PySem PySem.Spec PyProof.Rows L2

/-- a text several times -/
def repS (z : Str) (n : Int) : Str := ⟨(List.replicate n.toNat z.cps.toList).flatten.toArray⟩
theorem foldl_cps : ∀ (l : List (Array Nat)) (acc : Array Nat), (l.foldl (fun x1 x2 => x1 ++ x2) acc).toList = acc.toList ++ (l.map (·.toList)).flatten
  | [], acc => by simp
  | x :: l, acc => by simp [foldl_cps l]
theorem repS_eq (z : Str) (n : Int) : (⟨(List.replicate n.toNat z.cps).foldl (fun x1 x2 => x1 ++ x2) #[]⟩ : Str) = repS z n := by
  unfold repS
  congr 1
  rw [← Array.toArray_toList (xs := List.foldl _ _ _), foldl_cps]
  simp
theorem repS_len (z : Str) (n : Int) : (repS z n).length = z.length * n.toNat := by
  show ((List.replicate n.toNat z.cps.toList).flatten.toArray).size = _
  simp [List.length_flatten, Nat.mul_comm]
  exact Nat.mul_comm _ _
/-! ## operations on data -/
/-- what a value is worth as a test -/
def truth : D → (Bool → Prop) → Prop
  | .at .non, k => k false
  | .at (.bl b), k => k b
  | .at (.int i), k => k (i != 0)
  | .at (.str x), k => x.length ≤ sizeLine ∧ k ((x.length : Int) != 0)
  | .nd .tup _ ds, k => k (!ds.isEmpty)
  | .nd .lst _ ds, k => k (!ds.isEmpty)
  | _, _ => False
/-- the built-in classes that isinstance asks of -/
inductive Ty where | int | bool | str | tuple | list | dict
  deriving DecidableEq
def Ty.name : Ty → String
  | .int => "int" | .bool => "bool" | .str => "str" | .tuple => "tuple" | .list => "list" | .dict => "dict"
def isTy : D → Ty → Option Bool
  | .at .non, _ => some false
  | .at (.bl _), t => some (t == .bool || t == .int)
  | .at (.int _), t => some (t == .int)
  | .at (.str _), t => some (t == .str)
  | .nd .tup _ _, t => some (t == .tuple)
  | .nd .lst _ _, t => some (t == .list)
  | .nd (.dK _) _ _, t => some (t == .dict)
  | _, _ => none

inductive U1 where
  | len | neg | nt | abs | str | int | sum | isNon | isNotNon | isi (ts : List Ty)
inductive U2 where
  | add | sub | mul | fdiv | mod | pow | shl | eq | ne | lt | le | gt | ge | isin | notin | idx | join | max | min | isinD | notinD | cnt | index
  deriving DecidableEq

/-- ints of a list -/
def intsOf : List D → Option (List Int)
  | [] => some []
  | .at (.int i) :: ds => (intsOf ds).map (i :: ·)
  | _ :: _ => none
def strsOf : List D → Option (List Str)
  | [] => some []
  | .at (.str i) :: ds => (strsOf ds).map (i :: ·)
  | _ :: _ => none
mutual
/-- data that == and the order compare -/
def pyd : D → Option PyData
  | .at .non => some .none
  | .at (.bl b) => some (.bool b)
  | .at (.int i) => some (.int i)
  | .at (.str x) => some (.str x)
  | .nd .tup _ ds => (pydL ds).map .tuple
  | .nd .lst _ ds => (pydL ds).map .list
  | _ => none
def pydL : List D → Option (List PyData)
  | [] => some []
  | d :: ds => (pyd d).bind fun x => (pydL ds).map (x :: ·)
end


/-! an operation on one value, on two, that leaves the heap -/
def evLen : D → (D → Prop) → Prop
  | .at (.str x), k => x.length ≤ sizeLine ∧ k (.at (.int x.length))
  | .nd .tup _ ds, k => k (.at (.int ds.length))
  | .nd .lst _ ds, k => k (.at (.int ds.length))
  | _, _ => False
def evNeg : D → (D → Prop) → Prop
  | .at (.int i), k => k (.at (.int (-i)))
  | _, _ => False
def evNt (d : D) (k : D → Prop) : Prop := truth d fun b => k (.at (.bl !b))
def evAbs : D → (D → Prop) → Prop
  | .at (.int i), k => k (.at (.int (if i < 0 then -i else i)))
  | _, _ => False
def evStr : D → (D → Prop) → Prop
  | .at (.str x), k => k (.at (.str x))
  | .at (.int i), k => i.natAbs.log2 < 1920 ∧ k (.at (.str (toString i)))
  | _, _ => False
def evInt : D → (D → Prop) → Prop
  | .at (.int i), k => k (.at (.int i))
  | .at (.bl b), k => k (.at (.int (if b = true then 1 else 0)))
  | .at (.str x), k => ∃ n, PySem.intText? x = some n ∧ x.length ≤ 640 ∧ k (.at (.int n))
  | _, _ => False
def evSum : D → (D → Prop) → Prop
  | .nd .lst _ ds, k => ∃ ns, intsOf ds = some ns ∧ k (.at (.int ns.sum))
  | _, _ => False
def isNon : D → Bool
  | .at .non => true
  | _ => false
def evIsi : List Ty → D → (D → Prop) → Prop
  | [t], d, k => ∃ b, isTy d t = some b ∧ k (.at (.bl b))
  | [t, u], d, k => ∃ b c, isTy d t = some b ∧ isTy d u = some c ∧ k (.at (.bl (b || c)))
  | _, _, _ => False
def ev1 : U1 → D → (D → Prop) → Prop
  | .len => evLen
  | .neg => evNeg
  | .nt => evNt
  | .abs => evAbs
  | .str => evStr
  | .int => evInt
  | .sum => evSum
  | .isNon => fun d k => k (.at (.bl (isNon d)))
  | .isNotNon => fun d k => k (.at (.bl (!isNon d)))
  | .isi ts => evIsi ts
def iop (C : Int → Int → Prop) (g : Int → Int → V) : D → D → (D → Prop) → Prop
  | .at (.int i), .at (.int j), k => C i j ∧ k (.at (g i j))
  | _, _, _ => False
def iop0 (g : Int → Int → V) : D → D → (D → Prop) → Prop
  | .at (.int i), .at (.int j), k => k (.at (g i j))
  | _, _, _ => False
def evAdd : D → D → (D → Prop) → Prop
  | .at (.int i), .at (.int j), k => k (.at (.int (i + j)))
  | .at (.str i), .at (.str j), k => i.length + j.length ≤ sizeLine ∧ k (.at (.str (i ++ j)))
  | _, _, _ => False
def eqD : D → D → (Bool → Prop) → Prop
  | .at (.int i), .at (.int j), k => k (decide (i = j))
  | .at (.str i), .at (.str j), k => k (decide (i = j))
  | .at (.bl i), .at (.bl j), k => k (decide (i = j))
  | x, y, k => ∃ a b, pyd x = some a ∧ pyd y = some b ∧ SeqAt.shaped a = true ∧ SeqAt.shaped b = true ∧ k (PyData.eqv a b)
def lookK {κ : Type} [DecidableEq κ] (kvs : List (κ × D)) (k : κ) : Option D := (kvs.find? fun kv => decide (kv.1 = k)).map (·.2)
def evIdx : D → D → (D → Prop) → Prop
  | .nd .tup _ ds, .at (.int i), k => ∃ d, atI ds i = some d ∧ k d
  | .nd .lst _ ds, .at (.int i), k => ∃ d, atI ds i = some d ∧ k d
  | .at (.str z), .at (.int i), k => z.length ≤ sizeLine ∧ ∃ c, atI z.cps.toList i = some c ∧ k (.at (.str ⟨#[c]⟩))
  | _, _, _ => False
def joinOk (x : Str) (ys : List Str) : Prop := (ys.map (·.length)).sum + ys.length * x.length ≤ 16777216
def evJoin : D → D → (D → Prop) → Prop
  | .at (.str x), .nd .tup _ ds, k => ∃ ys, strsOf ds = some ys ∧ joinOk x ys ∧ k (.at (.str (Txt.join x ys)))
  | .at (.str x), .nd .lst _ ds, k => ∃ ys, strsOf ds = some ys ∧ joinOk x ys ∧ k (.at (.str (Txt.join x ys)))
  | _, _, _ => False
def atsOf : List D → Option (List V)
  | [] => some []
  | .at v :: ds => (atsOf ds).map (v :: ·)
  | _ :: _ => none
/-- x in a list or a tuple of plain things -/
def evIn (neg : Bool) : D → D → (D → Prop) → Prop
  | .at v, .nd .tup _ ds, k => ∃ vs, atsOf ds = some vs ∧ flatV v = true ∧ vs.all flatV = true ∧ k (.at (.bl (if neg then !inV v vs else inV v vs)))
  | .at v, .nd .lst _ ds, k => ∃ vs, atsOf ds = some vs ∧ flatV v = true ∧ vs.all flatV = true ∧ k (.at (.bl (if neg then !inV v vs else inV v vs)))
  | _, _, _ => False
/-- .. of a list of any data -/
def evInD (neg : Bool) : D → D → (D → Prop) → Prop
  | x, .nd .lst _ ds, k => ∃ d es, pyd x = some d ∧ pydL ds = some es ∧ SeqAt.shaped d = true ∧ SeqAt.shaped (.list es) = true ∧ k (.at (.bl (if neg then !es.any fun z => PyData.eqv z d else es.any fun z => PyData.eqv z d)))
  | _, _, _ => False
def evIndex : D → D → (D → Prop) → Prop
  | .nd .lst _ ds, x, k => ∃ d es j z, pyd x = some d ∧ pydL ds = some es ∧ SeqAt.shaped (.list es) = true ∧ SeqAt.shaped d = true ∧ es[j]? = some z ∧ PyData.eqv z d = true ∧ (∀ (m : Nat) (z' : PyData), m < j → es[m]? = some z' → PyData.eqv z' d = false) ∧ k (.at (.int (j : Nat)))
  | _, _, _ => False
def evCnt : D → D → (D → Prop) → Prop
  | .nd .lst _ ds, .at (.str x), k => ∃ ys, strsOf ds = some ys ∧ k (.at (.int ((ys.countP fun y => decide (y = x)) : Nat)))
  | _, _, _ => False
def ev2 : U2 → D → D → (D → Prop) → Prop
  | .add => evAdd
  | .sub => iop0 fun i j => .int (i - j)
  | .mul => iop (fun i j => CMulW i j ∨ CMul i j) fun i j => .int (i * j)
  | .fdiv => iop CDivW fun i j => .int (i / j)
  | .mod => iop (fun _ j => 0 < j) fun i j => .int (i % j)
  | .pow => iop CPow fun i j => .int (i ^ j.toNat)
  | .shl => iop CPow fun i j => .int (i * 2 ^ j.toNat)
  | .eq => fun x y k => eqD x y fun b => k (.at (.bl b))
  | .ne => fun x y k => eqD x y fun b => k (.at (.bl !b))
  | .lt => iop0 fun i j => .bl (decide (i < j))
  | .le => iop0 fun i j => .bl (decide (i ≤ j))
  | .gt => iop0 fun i j => .bl (decide (j < i))
  | .ge => iop0 fun i j => .bl (decide (j ≤ i))
  | .idx => evIdx
  | .join => evJoin
  | .isin => evIn false
  | .notin => evIn true
  | .isinD => evInD false
  | .notinD => evInD true
  | .index => evIndex
  | .cnt => evCnt
  | .max => iop0 fun i j => .int (if j > i then j else i)
  | .min => iop0 fun i j => .int (if j < i then j else i)

/-! ## the operations as they run -/
section
variable {X : Cx} {L : List Res} {H : Hp} {v u : V} {d e : D} {R : D → Prop} {Q : VK}
abbrev R1 := V → Hp → VK → Prop
/-- r does ev: from seen values to a seen value, the heap as it was -/
def Does1 (X : Cx) (r : R1) (ev : D → (D → Prop) → Prop) : Prop := ∀ (L : List Res) (H : Hp) (v : V) (d : D) (R : D → Prop) (Q : VK), In X.K H L v d → ev d R → (∀ w dr, R dr → In X.K H L w dr → Q w H) → r v H Q
def Does2 (X : Cx) (r : R2) (ev : D → D → (D → Prop) → Prop) : Prop := ∀ (L : List Res) (H : Hp) (v u : V) (d e : D) (R : D → Prop) (Q : VK), In X.K H L v d → In X.K H L u e → ev d e R → (∀ w dr, R dr → In X.K H L w dr → Q w H) → r v u H Q
theorem In.mkat {K : PySem.W.Frag} {w x : V} {d : D} (h : In K H L w d) : In K H L x (.at x) := by
  obtain ⟨O, Z, OL, ZL, q, _⟩ := h
  exact ⟨[], [], OL, ZL, q, .at x, fun _ h => by simp at h, fun _ h => by simp at h⟩
theorem does_iop {C : Int → Int → Prop} {g : Int → Int → V} : Does2 X (rI C g) (iop C g) := fun L H v u d e R Q h1 h2 h q => by
  unfold iop at h
  split at h
  · exact ⟨_, _, h1.at, h2.at, h.1, q _ _ h.2 h1.mkat⟩
  · exact h.elim
theorem does_iop0 {g : Int → Int → V} : Does2 X (rI0 g) (iop0 g) := fun L H v u d e R Q h1 h2 h q => by
  unfold iop0 at h
  split at h
  · exact ⟨_, _, h1.at, h2.at, q _ _ h h1.mkat⟩
  · exact h.elim
theorem does_len : Does1 X (fun v H Q => ∃ n, LenV X.K v H n ∧ Q (.int n) H) evLen := fun L H v d R Q h1 h q => by
  unfold evLen at h
  split at h
  · obtain rfl := h1.at
    exact ⟨_, ⟨h.1, rfl⟩, q _ _ h.2 h1.mkat⟩
  · obtain ⟨a, vs, rfl, hl, rd, _⟩ := h1.nd
    exact ⟨vs.length, .inr ⟨vs, .inl rd, rfl⟩, q _ _ h (by rw [hl]; exact h1.mkat)⟩
  · obtain ⟨a, vs, rfl, hl, rd, _⟩ := h1.nd
    exact ⟨vs.length, .inl ⟨vs, rd, rfl⟩, q _ _ h (by rw [hl]; exact h1.mkat)⟩
  · exact h.elim
theorem truth_ok {K : PySem.W.Frag} {R : Bool → Prop} (h1 : In K H L v d) (h : truth d R) : ∃ k, TruV K v H k ∧ R k := by
  have emp : ∀ {vs : List V} {ds : List D}, vs.length = ds.length → vs.isEmpty = ds.isEmpty := by
    intro vs ds; cases vs <;> cases ds <;> simp
  unfold truth at h
  split at h
  · obtain rfl := h1.at; exact ⟨_, rfl, h⟩
  · obtain rfl := h1.at; exact ⟨_, rfl, h⟩
  · obtain rfl := h1.at; exact ⟨_, rfl, h⟩
  · obtain rfl := h1.at; exact ⟨_, ⟨h.1, rfl⟩, h.2⟩
  · obtain ⟨a, vs, rfl, hl, rd, _⟩ := h1.nd
    exact ⟨_, .inr (.inl ⟨vs, .inl rd, rfl⟩), by rw [emp hl]; exact h⟩
  · obtain ⟨a, vs, rfl, hl, rd, _⟩ := h1.nd
    exact ⟨_, .inl ⟨vs, rd, rfl⟩, by rw [emp hl]; exact h⟩
  · exact h.elim
theorem does_nt : Does1 X (fun v H Q => ∃ k, TruV X.K v H k ∧ Q (.bl !k) H) evNt := fun L H v d R Q h1 h q => by
  obtain ⟨k, t, r⟩ := truth_ok h1 h
  exact ⟨k, t, q _ _ r h1.mkat⟩
theorem ints_ok {K : PySem.W.Frag} : ∀ {ds : List D} {vs : List V} {ns : List Int}, intsOf ds = some ns → vs.length = ds.length → (∀ (i : Nat) (d : D), ds[i]? = some d → ∃ w, vs[i]? = some w ∧ In K H L w d) → vs = ns.map V.int
  | [], [], _, e, _, _ => by cases e; rfl
  | d :: ds, v :: vs, ns, e, hl, h => by
    have : ∃ i ms, d = .at (.int i) ∧ intsOf ds = some ms ∧ i :: ms = ns := by
      unfold intsOf at e
      split at e
      · contradiction
      · rename_i hh
        cases hh
        obtain ⟨ms, e1, e2⟩ := Option.map_eq_some_iff.mp e
        exact ⟨_, ms, rfl, e1, e2⟩
      · cases e
    obtain ⟨i, ms, rfl, e1, rfl⟩ := this
    obtain ⟨w, e2, e3⟩ := h 0 _ rfl
    obtain rfl : v = w := by simpa using e2
    obtain rfl := e3.at
    rw [ints_ok (vs := vs) e1 (by simpa using hl) fun i d h' => by simpa using h (i + 1) d (by simpa using h')]
    rfl
theorem strs_ok {K : PySem.W.Frag} : ∀ {ds : List D} {vs : List V} {ns : List Str}, strsOf ds = some ns → vs.length = ds.length → (∀ (i : Nat) (d : D), ds[i]? = some d → ∃ w, vs[i]? = some w ∧ In K H L w d) → vs = ns.map V.str
  | [], [], _, e, _, _ => by cases e; rfl
  | d :: ds, v :: vs, ns, e, hl, h => by
    have : ∃ i ms, d = .at (.str i) ∧ strsOf ds = some ms ∧ i :: ms = ns := by
      unfold strsOf at e
      split at e
      · contradiction
      · rename_i hh
        cases hh
        obtain ⟨ms, e1, e2⟩ := Option.map_eq_some_iff.mp e
        exact ⟨_, ms, rfl, e1, e2⟩
      · cases e
    obtain ⟨i, ms, rfl, e1, rfl⟩ := this
    obtain ⟨w, e2, e3⟩ := h 0 _ rfl
    obtain rfl : v = w := by simpa using e2
    obtain rfl := e3.at
    rw [strs_ok (vs := vs) e1 (by simpa using hl) fun i d h' => by simpa using h (i + 1) d (by simpa using h')]
    rfl
theorem does_sum : Does1 X (fun v H Q => rSum X.K [v] H Q) evSum := fun L H v d R Q h1 h q => by
  unfold evSum at h
  split at h
  · obtain ⟨ns, e, h⟩ := h
    obtain ⟨a, vs, rfl, hl, rd, hi⟩ := h1.nd
    have := ints_ok e hl hi
    subst this
    exact ⟨a, ns, rfl, rd, q _ _ h h1.mkat⟩
  · exact h.elim
theorem does_join : Does2 X (fun v u H Q => ∃ a p, ∃ ys : List Str, v = .str a ∧ u = .ref p ∧ (SqL X.K H p (ys.map V.str) ∨ SqT X.K H p (ys.map V.str)) ∧
    (ys.map (·.length)).sum + ys.length * a.length ≤ 16777216 ∧ Q (.str (Txt.join a ys)) H) evJoin := fun L H v u d e R Q h1 h2 h q => by
  unfold evJoin at h
  split at h
  · obtain ⟨ys, e, hz, h⟩ := h
    obtain ⟨a, vs, rfl, hl, rd, hi⟩ := h2.nd
    have := strs_ok e hl hi
    subst this
    exact ⟨_, a, ys, h1.at, rfl, .inr (.inl rd), hz, q _ _ h h1.mkat⟩
  · obtain ⟨ys, e, hz, h⟩ := h
    obtain ⟨a, vs, rfl, hl, rd, hi⟩ := h2.nd
    have := strs_ok e hl hi
    subst this
    exact ⟨_, a, ys, h1.at, rfl, .inl (rd), hz, q _ _ h h1.mkat⟩
  · exact h.elim
theorem atI_map {α β : Type} {xs : List α} {ys : List β} {P : α → β → Prop} (hl : xs.length = ys.length) (h : ∀ (i : Nat) (y : β), ys[i]? = some y → ∃ x, xs[i]? = some x ∧ P x y) {i : Int} {y : β} (e : atI ys i = some y) : ∃ x, atI xs i = some x ∧ P x y := by
  unfold atI at e ⊢
  rw [hl]
  obtain ⟨j, e1, e2⟩ := Option.bind_eq_some_iff.mp e
  obtain ⟨x, e3, p⟩ := h j y e2
  exact ⟨x, by rw [e1]; exact e3, p⟩
theorem does_idx : Does2 X (rIx X.K) evIdx := fun L H v u d e R Q h1 h2 h q => by
  unfold evIdx at h
  split at h
  · obtain ⟨d, e, h⟩ := h
    obtain ⟨a, vs, rfl, hl, rd, hi⟩ := h1.nd
    obtain ⟨w, e1, p⟩ := atI_map hl hi e
    exact .inr (.inl ⟨a, vs, _, w, rfl, h2.at, .inl rd, e1, q _ _ h p⟩)
  · obtain ⟨d, e, h⟩ := h
    obtain ⟨a, vs, rfl, hl, rd, hi⟩ := h1.nd
    obtain ⟨w, e1, p⟩ := atI_map hl hi e
    exact .inl ⟨a, vs, _, w, rfl, h2.at, rd, e1, q _ _ h p⟩
  · obtain ⟨hz, c, e, h⟩ := h
    exact .inr (.inr ⟨_, _, c, h1.at, h2.at, hz, e, q _ _ h h1.mkat⟩)
  · exact h.elim
theorem does_add : Does2 X (fun x y H Q => rI0 (fun i j => .int (i + j)) x y H Q ∨ (∃ i j, x = .str i ∧ y = .str j ∧ i.length + j.length ≤ sizeLine ∧ Q (.str (i ++ j)) H)) evAdd := fun L H v u d e R Q h1 h2 h q => by
  unfold evAdd at h
  split at h
  · exact .inl ⟨_, _, h1.at, h2.at, q _ _ h h1.mkat⟩
  · exact .inr ⟨_, _, h1.at, h2.at, h.1, q _ _ h.2 h1.mkat⟩
  · exact h.elim

mutual
theorem Rep.dp {K : PySem.W.Frag} : ∀ {v : V} {d : D} {O Z : List Addr} {x : PyData}, Rep K H v d O Z → pyd d = some x → Dp K H v x
  | _, _, _, _, x, .at v, e => by
    cases v <;> simp [pyd] at e <;> subst e
    · exact .non
    · exact .bl _
    · exact .int _
    · exact .str _
  | _, _, _, _, x, .tup (o := o) h t, e => by
    simp only [pyd, Option.map_eq_some_iff] at e
    obtain ⟨xs, e, rfl⟩ := e
    exact .tup (.inl h.rd) (t.dp e)
  | _, _, _, _, x, .own (k := k) h1 h2 h3 t, e => by
    cases k <;> simp [pyd, Kd.isTup] at e h1
    obtain ⟨xs, e, rfl⟩ := e
    exact .lst (.inl (.inl h2)) (t.dp e)
  | _, _, _, _, x, .kst h1 t, e => by
    simp only [pyd, Option.map_eq_some_iff] at e
    obtain ⟨xs, e, rfl⟩ := e
    exact .lst (.inr h1) (t.dp e)
  | _, _, _, _, x, .fro (k := k) h1 h2 h3 t, e => by
    cases k <;> simp [pyd, Kd.isTup] at e h1
    obtain ⟨xs, e, rfl⟩ := e
    exact .lst (.inl h2) (t.dp e)
theorem RepL.dp {K : PySem.W.Frag} : ∀ {vs : List V} {ds : List D} {O Z : List Addr} {xs : List PyData}, RepL K H vs ds O Z → pydL ds = some xs → DpAll K H vs xs
  | _, _, _, _, xs, .nil, e => by simp [pydL] at e; subst e; exact .nil
  | _, _, _, _, xs, .cons h t, e => by
    simp only [pydL, Option.bind_eq_some_iff, Option.map_eq_some_iff] at e
    obtain ⟨y, e1, ys, e2, rfl⟩ := e
    exact .cons (h.dp e1) (t.dp e2)
end
theorem In.dp {K : PySem.W.Frag} {x : PyData} (h : In K H L v d) (e : pyd d = some x) : Dp K H v x := by
  obtain ⟨O, Z, OL, ZL, q, r, _⟩ := h
  exact r.dp e
def rEqA (K : PySem.W.Frag) : R2 := fun x y H Q => rEq x y H Q ∨ rEqD K x y H Q
def rNeA (K : PySem.W.Frag) : R2 := fun x y H Q => rNe x y H Q ∨ rNeD K x y H Q
theorem eqD_cases {R : Bool → Prop} (h : eqD d e R) : ((∃ x y, d = .at x ∧ e = .at y ∧ scal x y = true ∧ R (decide (x = y))) ∨ ∃ a b, pyd d = some a ∧ pyd e = some b ∧ SeqAt.shaped a = true ∧ SeqAt.shaped b = true ∧ R (PyData.eqv a b)) := by
  unfold eqD at h
  split at h
  · exact .inl ⟨_, _, rfl, rfl, rfl, by rename_i i j; rw [show decide (V.int i = V.int j) = decide (i = j) from decide_eq_decide.mpr ⟨fun z => V.int.inj z, fun z => by rw [z]⟩]; assumption⟩
  · exact .inl ⟨_, _, rfl, rfl, rfl, by rename_i i j; rw [show decide (V.str i = V.str j) = decide (i = j) from decide_eq_decide.mpr ⟨fun z => V.str.inj z, fun z => by rw [z]⟩]; assumption⟩
  · exact .inl ⟨_, _, rfl, rfl, rfl, by rename_i i j; rw [show decide (V.bl i = V.bl j) = decide (i = j) from decide_eq_decide.mpr ⟨fun z => V.bl.inj z, fun z => by rw [z]⟩]; assumption⟩
  · exact .inr h
theorem does_eq : Does2 X (rEqA X.K) (ev2 .eq) := fun L H v u d e R Q h1 h2 h q => by
  rcases eqD_cases h with ⟨x, y, rfl, rfl, s, h⟩ | ⟨a, b, e1, e2, s1, s2, h⟩
  · obtain rfl := h1.at
    obtain rfl := h2.at
    exact .inl ⟨s, q _ _ h h1.mkat⟩
  · exact .inr ⟨a, b, h1.dp e1, h2.dp e2, s1, s2, q _ _ h h1.mkat⟩
theorem does_ne : Does2 X (rNeA X.K) (ev2 .ne) := fun L H v u d e R Q h1 h2 h q => by
  rcases eqD_cases h with ⟨x, y, rfl, rfl, s, h⟩ | ⟨a, b, e1, e2, s1, s2, h⟩
  · obtain rfl := h1.at
    obtain rfl := h2.at
    exact .inl ⟨s, q _ _ h h1.mkat⟩
  · exact .inr ⟨a, b, h1.dp e1, h2.dp e2, s1, s2, q _ _ h h1.mkat⟩
theorem kitB_all : ∀ t u : Ty, kitB t.name u.name = some (t == u || (t == .bool && u == .int)) := by
  intro t u
  cases t <;> cases u <;> decide +kernel
theorem kitB_non : ∀ u : Ty, kitB "NoneType" u.name = some false := by
  intro u
  cases u <;> decide +kernel
theorem In.ty {K : PySem.W.Frag} {t : Ty} {b : Bool} (h : In K H L v d) (e : isTy d t = some b) : ∃ tv, TyX K H v tv ∧ PySem.W.kitOne K tv (.type t.name) = some b := by
  have key : ∀ (c : Ty), (c == t || (c == .bool && t == .int)) = b → PySem.W.kitOne K (.type c.name) (.type t.name) = some b := fun c hb => by
    rw [← hb]; exact kit_ty (kitB_all c t)
  unfold isTy at e
  split at e
  · obtain rfl := h.at; exact ⟨_, .base .non, by rw [← e]; exact kit_ty (kitB_non t)⟩
  · obtain rfl := h.at; exact ⟨_, .base (.bl _), key .bool (by simp at e; rw [← e]; cases t <;> rfl)⟩
  · obtain rfl := h.at; exact ⟨_, .base (.int _), key .int (by simp at e; rw [← e]; cases t <;> rfl)⟩
  · obtain rfl := h.at; exact ⟨_, .base (.str _), key .str (by simp at e; rw [← e]; cases t <;> rfl)⟩
  · obtain ⟨a, vs, rfl, hl, rd, _⟩ := h.nd
    exact ⟨.type "tuple", rd.elim (fun rd => .base (.tup rd)) fun ⟨_, rd⟩ => .fTuple rd, key .tuple (by simp at e; rw [← e]; cases t <;> rfl)⟩
  · obtain ⟨a, vs, rfl, hl, rd, _⟩ := h.nd
    refine ⟨.type "list", ?_, key .list (by simp at e; rw [← e]; cases t <;> rfl)⟩
    rcases rd with (rd | ⟨ob, rd⟩) | ⟨ob, its, n, rd, hc, _⟩
    · exact .base (.lst rd)
    · exact .base (.frz rd)
    · exact .kList rd hc
  · obtain ⟨a, vs, rfl, hl, rd, _⟩ := h.nd
    refine ⟨.type "dict", ?_, key .dict (by simp at e; rw [← e]; cases t <;> rfl)⟩
    rcases rd with rd | ⟨ob, rd⟩
    · exact .base (.dK rd)
    · exact .fDict rd
  · cases e
def rIsi1 (K : PySem.W.Frag) (t : Ty) : R1 := fun x H Q => ∃ (tv : Value) (b : Bool), TyX K H x tv ∧ PySem.W.kitOne K tv (.type t.name) = some b ∧ Q (.bl b) H
def rIsi2 (K : PySem.W.Frag) (t u : Ty) : R1 := fun x H Q => ∃ (tv : Value) (b c : Bool), TyX K H x tv ∧ PySem.W.kitOne K tv (.type t.name) = some b ∧ PySem.W.kitOne K tv (.type u.name) = some c ∧ Q (.bl (b || c)) H
theorem does_isi1 {t : Ty} : Does1 X (rIsi1 X.K t) (evIsi [t]) := fun L H v d R Q h1 ⟨b, e, h⟩ q => by
  obtain ⟨tv, x, e⟩ := h1.ty e
  exact ⟨tv, b, x, e, q _ _ h h1.mkat⟩
theorem does_abs : Does1 X (fun x H Q => ∃ i, x = .int i ∧ Q (.int (if i < 0 then -i else i)) H) evAbs := fun L H v d R Q h1 h q => by
  unfold evAbs at h
  split at h
  · exact ⟨_, h1.at, q _ _ h h1.mkat⟩
  · exact h.elim
theorem does_neg : Does1 X (rU fun i => .int (-i)) evNeg := fun L H v d R Q h1 h q => by
  unfold evNeg at h
  split at h
  · exact ⟨_, h1.at, q _ _ h h1.mkat⟩
  · exact h.elim
theorem does_str : Does1 X (fun x H Q => (∃ i : Int, x = .int i ∧ i.natAbs.log2 < 1920 ∧ Q (.str (toString i)) H) ∨ ∃ a, x = .str a ∧ Q (.str a) H) evStr := fun L H v d R Q h1 h q => by
  unfold evStr at h
  split at h
  · exact .inr ⟨_, h1.at, q _ _ h h1.mkat⟩
  · exact .inl ⟨_, h1.at, h.1, q _ _ h.2 h1.mkat⟩
  · exact h.elim
theorem does_int : Does1 X (fun x H Q => ((∃ i : Int, x = .int i ∧ Q (.int i) H) ∨ ∃ k : Bool, x = .bl k ∧ Q (.int (if k then 1 else 0)) H) ∨ ∃ a n, x = .str a ∧ PySem.intText? a = some n ∧ a.length ≤ 640 ∧ Q (.int n) H) evInt := fun L H v d R Q h1 h q => by
  unfold evInt at h
  split at h
  · exact .inl (.inl ⟨_, h1.at, q _ _ h h1.mkat⟩)
  · exact .inl (.inr ⟨_, h1.at, q _ _ h h1.mkat⟩)
  · obtain ⟨n, e1, e2, h⟩ := h
    exact .inr ⟨_, n, h1.at, e1, e2, q _ _ h h1.mkat⟩
  · exact h.elim
theorem ats_ok {K : PySem.W.Frag} : ∀ {ds : List D} {vs : List V} {ns : List V}, atsOf ds = some ns → vs.length = ds.length → (∀ (i : Nat) (d : D), ds[i]? = some d → ∃ w, vs[i]? = some w ∧ In K H L w d) → vs = ns
  | [], [], _, e, _, _ => by cases e; rfl
  | d :: ds, v :: vs, ns, e, hl, h => by
    have : ∃ i ms, d = .at i ∧ atsOf ds = some ms ∧ i :: ms = ns := by
      unfold atsOf at e
      split at e
      · contradiction
      · rename_i hh
        cases hh
        obtain ⟨ms, e1, e2⟩ := Option.map_eq_some_iff.mp e
        exact ⟨_, ms, rfl, e1, e2⟩
      · cases e
    obtain ⟨i, ms, rfl, e1, rfl⟩ := this
    obtain ⟨w, e2, e3⟩ := h 0 _ rfl
    obtain rfl : v = w := by simpa using e2
    obtain rfl := e3.at
    rw [ats_ok (vs := vs) e1 (by simpa using hl) fun i d h' => by simpa using h (i + 1) d (by simpa using h')]
theorem does_in {neg : Bool} : Does2 X (rIn X.K neg) (evIn neg) := fun L H v u d e R Q h1 h2 h q => by
  unfold evIn at h
  split at h
  · obtain ⟨vs, e1, f1, f2, h⟩ := h
    obtain ⟨a, xs, rfl, hl, rd, hi⟩ := h2.nd
    obtain rfl := ats_ok e1 hl hi
    obtain rfl := h1.at
    exact ⟨a, xs, rfl, .inr (.inl rd), f1, f2, q _ _ h h1.mkat⟩
  · obtain ⟨vs, e1, f1, f2, h⟩ := h
    obtain ⟨a, xs, rfl, hl, rd, hi⟩ := h2.nd
    obtain rfl := ats_ok e1 hl hi
    obtain rfl := h1.at
    exact ⟨a, xs, rfl, .inl rd, f1, f2, q _ _ h h1.mkat⟩
  · exact h.elim
theorem does_inD : Does2 X (rInD X.K) (evInD false) := fun L H v u d e R Q h1 h2 h q => by
  unfold evInD at h
  split at h
  · obtain ⟨x, es, e1, e2, s1, s2, h⟩ := h
    exact ⟨x, es, h1.dp e1, h2.dp (by simp only [pyd, e2, Option.map_some]), s1, s2, q _ _ h h1.mkat⟩
  · exact h.elim
theorem does_notInD : Does2 X (rNotInD X.K) (evInD true) := fun L H v u d e R Q h1 h2 h q => by
  unfold evInD at h
  split at h
  · obtain ⟨x, es, e1, e2, s1, s2, h⟩ := h
    exact ⟨x, es, h1.dp e1, h2.dp (by simp only [pyd, e2, Option.map_some]), s1, s2, q _ _ h h1.mkat⟩
  · exact h.elim
theorem does_index : Does2 X (fun x y H Q => tyV X.K "list" x H ∧ rIndexD X.K x [y] H Q) evIndex := fun L H v u d e R Q h1 h2 h q => by
  unfold evIndex at h
  split at h
  · obtain ⟨x, es, j, z, e1, e2, s1, s2, e3, e4, e5, h⟩ := h
    obtain ⟨a, xs, rfl, hl, rd, hi⟩ := h1.nd
    exact ⟨.inl ⟨rfl, xs, rd⟩, a, u, x, es, j, z, rfl, rfl, h1.dp (by simp only [pyd, e2, Option.map_some]), h2.dp e1, s1, s2, e3, e4, e5, q _ _ h h1.mkat⟩
  · exact h.elim
/-- list.count of texts -/
def rCntS (K : PySem.W.Frag) : V → List V → Hp → VK → Prop := fun x xs H Q => ∃ (p : Addr) (ys : List Str) (k : Str), x = .ref p ∧ xs = [.str k] ∧ SqL K H p (ys.map V.str) ∧ Q (.int ((ys.countP fun y => decide (y = k)) : Nat)) H
theorem countIn_eq (k : Str) : ∀ ys : List Str, PySem.Spec.countIn (.str k) (ys.map PyData.str) = ((ys.countP fun y => decide (y = k)) : Nat)
  | [] => rfl
  | y :: ys => by
    have ih := countIn_eq k ys
    have e : PySem.Spec.countIn (.str k) ((y :: ys).map PyData.str) = (if same (PyData.str y) (.str k) then 1 else 0) + PySem.Spec.countIn (.str k) (ys.map PyData.str) := rfl
    rw [e, ih, List.countP_cons]
    have e2 : same (PyData.str y) (.str k) = decide (y = k) := by
      rfl
    rw [e2]
    by_cases h : y = k
    · simp [h]; omega
    · simp [h]
theorem mt_cntS : MtR X "list.count" (rCntS X.K) := by
  intro pins s σ H x xs v us Q I rx rxs h
  obtain ⟨p, ys, k, rfl, rfl, hs, q⟩ := h
  cases rx
  obtain ⟨u, rfl, ru⟩ := rxs.one
  obtain ⟨t, rfl⟩ := ru
  obtain ⟨its, rv, hpl, hlen⟩ := I.list hs
  refine PyProof.Rows.count_list_strs hpl.isList rv.strs ?_
  rw [countIn_eq]
  exact ⟨.int _, H, I.kept (t' := s.toks + 1) fun b o e => e, ⟨_, rfl⟩, q⟩
theorem does_cnt : Does2 X (fun x y H Q => tyV X.K "list" x H ∧ rCntS X.K x [y] H Q) evCnt := fun L H v u d e R Q h1 h2 h q => by
  unfold evCnt at h
  split at h
  · obtain ⟨ys, e1, h⟩ := h
    obtain ⟨a, xs, rfl, hl, rd, hi⟩ := h1.nd
    have := strs_ok e1 hl hi
    subst this
    exact ⟨.inl ⟨rfl, _, rd⟩, a, ys, _, rfl, by rw [h2.at], rd, q _ _ h h1.mkat⟩
  · exact h.elim
theorem In.isNon {K : PySem.W.Frag} (h : In K H L v d) : decide (v = .non) = isNon d := by
  match d with
  | .at w => obtain rfl := h.at; cases v <;> rfl
  | .nd k o ds => obtain ⟨a, vs, rfl, _⟩ := h.nd; rfl
theorem does_isNon : Does1 X (fun x H Q => Q (.bl (decide (x = .non))) H) (ev1 .isNon) := fun L H v d R Q h1 h q => by
  show Q (.bl (decide (v = .non))) H
  rw [h1.isNon]; exact q _ _ h h1.mkat
theorem does_isNotNon : Does1 X (fun x H Q => Q (.bl (!decide (x = .non))) H) (ev1 .isNotNon) := fun L H v d R Q h1 h q => by
  show Q (.bl (!decide (v = .non))) H
  rw [h1.isNon]; exact q _ _ h h1.mkat
end
end Z
set_option Elab.async false
set_option linter.all false
set_option maxRecDepth 100000
set_option autoImplicit false
namespace Z
open PySem PySem.Spec PyProof.Rows L2

/-! ## the text by value: expressions, tests, targets, walks, statements -/
/-- operations whose result is new: of one value, of two -/
inductive A1 where
  | tupleOf | tupleX | listOf | sorted | dictOf | rev | range | listD | dictL
inductive M where
  | append | pop | popAt | insert | extend
inductive G where
  | name (i : Nat)
  | tup (gs : List G)
mutual
inductive E where
  | var (i : Nat) | c (v : V) | u (op : U1) (e : E) | b (op : U2) (a b : E) | ite (t : T) (a b : E) | andV (a b : E) | orV (a b : E)
  | pv (e : E) | mv (i : Nat) | sh (i : Nat) | vu (op : U1) (e : E) | a1 (op : A1) (e : E) | av (op : A1) (e : E)
  | cat (a b : E) | slc (e : E) (lo hi : O)
  | tup (es : Es) | tupX (es : Es) | lst (es : Es) | dic (t : Bool)
  | call (f : Nat) (es : Es) (m : Option (Nat × Nat)) | callP (f : Nat) (perm : List Nat) (es : Es)
  | dget (d : E) (k : E) | din (neg : Bool) (k : E) (d : E) | dgetD (i : Nat) (k : E) (x : E)
  | mth (m : M) (i : Nat) (es : Es) | mthN (m : M) (i : Nat) (π : List Int) (c : Option Int)
  | comp (own : List Nat) (it : It) (g : G) (t : OT) (e : E)
  | compK (own : List Nat) (i : Nat) (g : G) (t : OT) (e : E)
  | ixL (i : Nat) (e : E) | ixd (i : Nat) (k : E) | mq (op : U2) (a b : E) | rep (a b : E) | xe (w : Env → (D → Env → Prop) → Prop) | xp (w : Env → (D → Prop) → Prop) | fz (i : Nat) (e : E) | dcomp (own : List Nat) (it : It) (g : G) (t : OT) (ke ve : E)
inductive O where
  | none | some (e : E)
inductive OT where
  | none | some (t : T)
inductive Es where
  | nil | cons (e : E) (es : Es) | consL (i : Nat) (es : Es)
inductive T where
  | v (e : E) | and (a b : T) | or (a b : T) | not (a : T) | pt (t : T)
inductive It where
  | seq (e : E) | rng (e : E) | zip (a b : E) | enum (e : E) | rng2 (es : Es) | rng3 (es : Es) | str (e : E)
end
inductive Out where
  | nx (δ : Env) | rt (d : D) (δ : Env) | bk (δ : Env) | ct (δ : Env) | xc (x : Str) (fs : List (Str × V)) (δ : Env)
mutual
inductive S where
  | set (i : Nat) (e : E) | asg (g : G) (e : E) | ex (e : E) | setIx (i : Nat) (π : List Int) (k : E) (e : E) | dput (i : Nat) (k : E) (e : E)
  | par (i j : Nat) (a b : E) | par3 (i j l : Nat) (a b c : E)
  | ret (e : E) | brk | cnt | pass | setIxL (i : Nat) (k e : E) | rse | xs (w : Env → (Out → Prop) → Prop)
  | rs (x n1 n2 : Str) (a b : E) | setR (x n1 n2 : Str) (i f : Nat) (es : Es) | exR (x n1 n2 : Str) (f : Nat) (es : Es) | appR (x n1 n2 : Str) (i f : Nat) (es : Es)
  | ite (t : T) (a b : Ss) | whl (t : T) (b : Ss) | fr (g : G) (it : It) (b : Ss)
inductive Ss where
  | nil | cons (s : S) (ss : Ss)
end

/-- a def by value: of the arguments the result, and what its first (or m-th) argument has become -/
abbrev Ct := List D → D → Option D → Prop

def Dkey : D → Option Key
  | .at (.int i) => some (.inl i)
  | .at (.str x) => some (.inr x)
  | _ => none
def DkeyL : List D → Option (List Key)
  | [] => some []
  | d :: ds => (Dkey d).bind fun k => (DkeyL ds).map (k :: ·)
def keyD : Key → D
  | .inl i => .at (.int i)
  | .inr x => .at (.str x)
def keysD (ks : List Key) : D := .nd .tup false (ks.map keyD)
def Kd.isDict : Kd → Bool
  | .dK _ => true
  | .dT _ => true
  | .lkK _ _ => true
  | .lkT _ _ => true
  | _ => false
/-- the dict's keys, as data -/
def Kd.keys : Kd → List D
  | .dK ks => ks.map keyD
  | .dT ks => ks.map keysD
  | .lkK _ ks => ks.map keyD
  | .lkT _ ks => ks.map keysD
  | _ => []
/-- the dict as it is read -/
def Kd.base : Kd → Kd
  | .lkK _ ks => .dK ks
  | .lkT _ ks => .dT ks
  | k => k
/-- .. as it stands while it is walked -/
def Kd.lock (o : Unit → Obj × List V) : Kd → Kd
  | .dK ks => .lkK o ks
  | .dT ks => .lkT o ks
  | k => k
/-- what a dict holds at a key -/
def dgetK : Kd → List D → D → (Option D → Prop) → Prop
  | .dK ks, ds, x, k => ∃ y, Dkey x = some y ∧ k (lookK (ks.zip ds) y)
  | .dT ks, ds, .nd .tup false xs, k => ∃ y, DkeyL xs = some y ∧ k (lookK (ks.zip ds) y)
  | _, _, _, _ => False
def dget : D → D → (Option D → Prop) → Prop
  | .nd c _ ds, x, k => dgetK c.base ds x k
  | _, _, _ => False
/-- d[k] = v on keys and values -/
def putKs {κ α : Type} [DecidableEq κ] : List κ → List α → κ → α → List κ × List α
  | k :: ks, d :: ds, y, x => if k = y then (k :: ks, x :: ds) else (k :: (putKs ks ds y x).1, d :: (putKs ks ds y x).2)
  | ks, ds, y, x => (ks ++ [y], ds ++ [x])
def dput : D → D → D → (D → Prop) → Prop
  | .nd (.dK ks) true ds, x, v, k => ds.length < sizeLine ∧ ∃ y, Dkey x = some y ∧ k (.nd (.dK (putKs ks ds y v).1) true (putKs ks ds y v).2)
  | .nd (.dT ks) true ds, .nd .tup false xs, v, k => ds.length < sizeLine ∧ ∃ y, DkeyL xs = some y ∧ k (.nd (.dT (putKs ks ds y v).1) true (putKs ks ds y v).2)
  | _, _, _, _ => False
def ltS (a b : Str) : Bool := decide (a.cps.toList < b.cps.toList)
mutual
/-- the order of data: ints, texts, tuples of such, item by item; none: not of one kind -/
def cmpD : D → D → Option Ordering
  | .at (.int i), .at (.int j) => some (if i < j then .lt else if j < i then .gt else .eq)
  | .at (.str i), .at (.str j) => some (if ltS i j = true then .lt else if ltS j i = true then .gt else .eq)
  | .nd .tup _ xs, .nd .tup _ ys => cmpDs xs ys
  | .nd .lst _ xs, .nd .lst _ ys => cmpDs xs ys
  | _, _ => none
def cmpDs : List D → List D → Option Ordering
  | [], [] => some .eq
  | [], _ :: _ => some .lt
  | _ :: _, [] => some .gt
  | x :: xs, y :: ys => (cmpD x y).bind fun o => if o = .eq then cmpDs xs ys else some o
end
def SortedD (ds : List D) : Prop := ds.Pairwise fun a b => cmpD b a ≠ some .lt

mutual
/-- data that sorted() compares, no deeper than n -/
def okD : Nat → D → Bool
  | _, .at (.int _) => true
  | _, .at (.str _) => true
  | n, .nd .tup _ ds => decide (0 < n) && okDs (n - 1) ds
  | n, .nd .lst _ ds => decide (0 < n) && okDs (n - 1) ds
  | _, _ => false
def okDs : Nat → List D → Bool
  | _, [] => true
  | n, d :: ds => okD n d && okDs n ds
end
mutual
/-- place by place of one kind -/
def likeD : D → D → Bool
  | .at (.int _), .at (.int _) => true
  | .at (.str _), .at (.str _) => true
  | .nd .tup _ xs, .nd .tup _ ys => likeDs xs ys
  | .nd .lst _ xs, .nd .lst _ ys => likeDs xs ys
  | _, _ => false
def likeDs : List D → List D → Bool
  | x :: xs, y :: ys => likeD x y && likeDs xs ys
  | [], _ => true
  | _ :: _, [] => true
end
def neT : D → Bool
  | .nd .tup _ [] => false
  | _ => true
def srtW (ds : List D) (k : List D → Prop) : Prop := (∀ x ∈ ds, okD 50 x = true) ∧ (∀ x ∈ ds, ∀ y ∈ ds, likeD x y = true) ∧ (ds.length < 2 ∨ ∀ x ∈ ds, neT x = true) ∧ ∀ ds', ds'.Perm ds → SortedD ds' → k ds'
/-- a pair of a tuple key and a value -/
def kvT : D → Option (List Key × D)
  | .nd .tup false [.nd .tup false xs, v] => (DkeyL xs).map (·, v)
  | _ => none
def kvsT : List D → Option (List (List Key) × List D)
  | [] => some ([], [])
  | d :: ds => (kvT d).bind fun kv => (kvsT ds).map fun r => (kv.1 :: r.1, kv.2 :: r.2)
/-- a pair of a plain key and a value -/
def kvK : D → Option (Key × D)
  | .nd .tup _ [x, v] => (Dkey x).map (·, v)
  | _ => none
def kvsK : List D → Option (List Key × List D)
  | [] => some ([], [])
  | d :: ds => (kvK d).bind fun kv => (kvsK ds).map fun r => (kv.1 :: r.1, kv.2 :: r.2)
/-- a new value out of a seen one -/
def evA1 : A1 → D → (D → Prop) → Prop
  | .tupleOf, .nd .tup o ds, k => frozL ds = true ∧ k (.nd .tup o ds)
  | .tupleX, .nd .lst _ ds, k => frozL ds = true ∧ k (.nd .tup true ds)
  | .tupleOf, .nd .lst _ ds, k => frozL ds = true ∧ k (.nd .tup false ds)
  | .listOf, .nd .tup _ ds, k => frozL ds = true ∧ k (.nd .lst true ds)
  | .listOf, .nd .lst _ ds, k => frozL ds = true ∧ k (.nd .lst true ds)
  | .listD, .nd (.dK ks) _ _, k => k (.nd .lst true (ks.map keyD))
  | .dictL, .nd .lst _ ds, k => frozL ds = true ∧ ∃ ks vs, kvsK ds = some (ks, vs) ∧ ks.Nodup ∧ k (.nd (.dK ks) true vs)
  | .rev, .nd .tup _ ds, k => frozL ds = true ∧ k (.nd .tup false ds.reverse)
  | .rev, .nd .lst _ ds, k => frozL ds = true ∧ k (.nd .lst true ds.reverse)
  | .sorted, .nd .lst _ ds, k => frozL ds = true ∧ srtW ds fun ds' => k (.nd .lst true ds')
  | .sorted, .nd (.dT ks) _ _, k => srtW (ks.map keysD) fun ds' => k (.nd .lst true ds')
  | .dictOf, .nd .tup true ds, k => frozL ds = true ∧ ∃ ks vs, kvsT ds = some (ks, vs) ∧ ks.Nodup ∧ k (.nd (.dT ks) true vs)
  | _, _, _ => False
/-- a method that changes a list: the list, what it hands back -/
def evM : M → List D → List D → (List D → D → Prop) → Prop
  | .append, ds, [d], k => ds.length < sizeLine ∧ k (ds ++ [d]) (.at .non)
  | .pop, ds, [], k => ∃ d, ds[ds.length - 1]? = some d ∧ k ds.dropLast d
  | .popAt, ds, [.at (.int i)], k => -(2 ^ 63) ≤ i ∧ i < 2 ^ 63 ∧ ∃ j d, seqIndex? i ds.length = some j ∧ ds[j]? = some d ∧ k (ds.eraseIdx j) d
  | .extend, ds, [.nd .lst true es], k => ds.length + es.length ≤ sizeLine ∧ k (ds ++ es) (.at .non)
  | .insert, ds, [.at (.int i), d], k => ds.length < sizeLine ∧ 0 ≤ i ∧ i < 2 ^ 63 ∧ k (ds.take i.toNat ++ [d] ++ ds.drop i.toNat) (.at .non)
  | _, _, _, _ => False
/-- the list at a path; the same with that list changed -/
def lstAt : List Int → D → Option (List D)
  | [], .nd .lst true ds => some ds
  | j :: π, .nd .lst true ds => (ixN ds.length j).bind fun n => (ds[n]?).bind fun d => lstAt π d
  | _, _ => none
def putAt : List Int → D → List D → D
  | [], _, ds' => .nd .lst true ds'
  | j :: π, .nd .lst true ds, ds' => match ixN ds.length j with
    | some n => .nd .lst true (ds.set n (putAt π (ds.getD n (.at .non)) ds'))
    | none => .at .non
  | _, d, _ => d
def wipeD (δ : Env) (is : List Nat) : Env := is.foldr (fun i δ => δ.set i none) δ
/-- the slots of a comprehension stand behind it as they stood ahead -/
def unwipe (δ0 δ : Env) (is : List Nat) : Env := is.foldr (fun i δ => δ.set i (δ0.getD i none)) δ
mutual
def wpG : G → D → Env → (Env → Prop) → Prop
  | .name i, d, δ, Q => Q (δ.set i (some d))
  | .tup gs, .nd .tup _ ds, δ, Q => ds.length = gs.length ∧ wpGs gs ds δ Q
  | .tup _, _, _, _ => False
def wpGs : List G → List D → Env → (Env → Prop) → Prop
  | [], [], δ, Q => Q δ
  | g :: gs, d :: ds, δ, Q => wpG g d δ fun δ1 => wpGs gs ds δ1 Q
  | _, _, _, _ => False
end
/-- turn by turn -/
def forW (body : D → Env → (Out → Prop) → Prop) : List D → Env → (Out → Prop) → Prop
  | [], δ, Q => Q (.nx δ)
  | d :: ds, δ, Q => body d δ fun o => match o with
    | .nx δ1 => forW body ds δ1 Q
    | .ct δ1 => forW body ds δ1 Q
    | .bk δ1 => Q (.nx δ1)
    | .rt r δ1 => Q (.rt r δ1)
    | .xc x fs δ1 => Q (.xc x fs δ1)
def forC (body : D → Env → (Option D → Env → Prop) → Prop) : List D → Env → List D → (List D → Env → Prop) → Prop
  | [], δ, acc, Q => Q acc δ
  | d :: ds, δ, acc, Q => body d δ fun r δ1 => match r with
    | some x => acc.length < sizeLine ∧ forC body ds δ1 (acc ++ [x]) Q
    | none => forC body ds δ1 acc Q
def whlW (t : Env → (Bool → Env → Prop) → Prop) (b : Env → (Out → Prop) → Prop) : Nat → Env → (Out → Prop) → Prop
  | 0, _, _ => False
  | n + 1, δ, Q => t δ fun c δ1 => if c = true then b δ1 fun o => match o with
      | .nx δ2 => whlW t b n δ2 Q
      | .ct δ2 => whlW t b n δ2 Q
      | .bk δ2 => Q (.nx δ2)
      | .rt r δ2 => Q (.rt r δ2)
      | .xc x fs δ2 => Q (.xc x fs δ2)
    else Q (.nx δ1)

/-- a list or a tuple of frozen items -/
def seqD : D → (List D → Prop) → Prop
  | .nd .tup _ ds, k => frozL ds = true ∧ k ds
  | .nd .lst _ ds, k => frozL ds = true ∧ k ds
  | _, _ => False
def catW (x y : D) (δ : Env) (Q : D → Env → Prop) : Prop := match x, y with
  | .nd .tup o xs, .nd .tup o' ys => xs.length + ys.length ≤ sizeLine ∧ Q (.nd .tup (if xs.length = 0 then o' else if ys.length = 0 then o else false) (xs ++ ys)) δ
  | .nd .lst true xs, .nd .lst true ys => xs.length + ys.length ≤ sizeLine ∧ Q (.nd .lst true (xs ++ ys)) δ
  | _, _ => False
def slcW (x : D) (l h : Option Int) (δ : Env) (Q : D → Env → Prop) : Prop := match x with
  | .nd .tup o xs => frozL xs = true ∧ Q (.nd .tup (o && decide (HT.sIx xs.length 0 l = 0 ∧ HT.sIx xs.length xs.length h = xs.length)) ((xs.drop (HT.sIx xs.length 0 l)).take (HT.sIx xs.length xs.length h - HT.sIx xs.length 0 l))) δ
  | .nd .lst _ xs => frozL xs = true ∧ Q (.nd .lst true ((xs.drop (HT.sIx xs.length 0 l)).take (HT.sIx xs.length xs.length h - HT.sIx xs.length 0 l))) δ
  | .at (.str x) => x.length ≤ sizeLine ∧ Q (.at (.str (cutS x l h))) δ
  | _ => False
/-- a list several times -/
def repW (x y : D) (δ : Env) (Q : D → Env → Prop) : Prop := match x, y with
  | .nd .lst true xs, .at (.int n) => frozL xs = true ∧ -(2 ^ 63) ≤ n ∧ n < 2 ^ 63 ∧ xs.length * n.toNat ≤ sizeLine ∧ Q (.nd .lst true (List.replicate n.toNat xs).flatten) δ
  | .at (.str z), .at (.int n) => -(2 ^ 63) ≤ n ∧ n < 2 ^ 63 ∧ z.length * n.toNat ≤ 16777216 ∧ Q (.at (.str (repS z n))) δ
  | .nd .tup _ xs, .at (.int n) => frozL xs = true ∧ xs ≠ [] ∧ 2 ≤ n ∧ xs.length * n.toNat ≤ 1000000 ∧ Q (.nd .tup false (List.replicate n.toNat xs).flatten) δ
  | _, _ => False
/-- range with two or three -/
def rngW2 : List D → (List D → Prop) → Prop
  | [.at (.int i), .at (.int j)], k => (-(2 ^ 62) ≤ i ∧ i < 2 ^ 62 ∧ -(2 ^ 62) ≤ j ∧ j < 2 ^ 62) ∧ k ((List.range (j - i).toNat).map fun (t : Nat) => D.at (.int (i + (t : Int))))
  | _, _ => False
def rngW3 : List D → (List D → Prop) → Prop
  | [.at (.int i), .at (.int j), .at (.int c)], k => ∃ n, RgC i j c n ∧ k ((List.range n).map fun (t : Nat) => D.at (.int (i + (t : Int) * c)))
  | _, _ => False
/-- what stands at an index or at a key -/
def evIxd : D → D → (D → Prop) → Prop
  | .nd .tup o ds, y, k => evIdx (.nd .tup o ds) y k
  | .nd .lst o ds, y, k => evIdx (.nd .lst o ds) y k
  | x, y, k => dget x y fun o => ∃ r, o = some r ∧ k r
/-- a turn of a dict's comprehension; the turns -/
def dcB (own : List Nat) (g : D → Env → (Env → Prop) → Prop) (t : Env → (Bool → Env → Prop) → Prop) (ke ve : Env → (D → Env → Prop) → Prop) (d : D) (δ : Env) (k : Option (D × D) → Env → Prop) : Prop :=
  g d δ fun δ1 => t δ1 fun c δ2 => if c = true then ke δ2 fun x δ3 => ve δ3 fun y δ4 => k (some (x, y)) (wipeD δ4 own) else k none (wipeD δ2 own)
def forD (body : D → Env → (Option (D × D) → Env → Prop) → Prop) : List D → Env → List Key → List D → (List Key → List D → Env → Prop) → Prop
  | [], δ, ks, vs, Q => Q ks vs δ
  | d :: ds, δ, ks, vs, Q => body d δ fun r δ1 => match r with
    | some (x, y) => vs.length < sizeLine ∧ ∃ k, Dkey x = some k ∧ forD body ds δ1 (putKs ks vs k y).1 (putKs ks vs k y).2 Q
    | none => forD body ds δ1 ks vs Q
/-- as forC; ok at the start of each turn and at the end -/
def forK (ok : Env → Prop) (body : D → Env → (Option D → Env → Prop) → Prop) : List D → Env → List D → (List D → Env → Prop) → Prop
  | [], δ, acc, Q => ok δ ∧ Q acc δ
  | d :: ds, δ, acc, Q => ok δ ∧ body d δ fun r δ1 => match r with
    | some x => acc.length < sizeLine ∧ forK ok body ds δ1 (acc ++ [x]) Q
    | none => forK ok body ds δ1 acc Q
def permD (perm : List Nat) (ds : List D) : List D := perm.map fun j => ds.getD j (.at .non)
def wpIt2 (x y : D) (δ : Env) (Q : List D → Env → Prop) : Prop := seqD x fun xs => seqD y fun ys => Q (List.zipWith (fun x y => D.nd .tup false [x, y]) xs ys) δ
/-- a def's call: its result, and what the m-th argument, the name in slot i, has become -/
def callW (ct : Ct) : Option (Nat × Nat) → List D → Env → (D → Env → Prop) → Prop
  | none, ds, δ, Q => ∃ r o, ct ds r o ∧ Q r δ
  | some (_, i), ds, δ, Q => ∃ r d', ct ds r (some d') ∧ Q r (δ.set i (some d'))
/-- a def that may raise the class x with the fields n1, n2: its result, or (o: some) what it raises -/
def callR (x n1 n2 : Str) (ct : Ct) (ds : List D) (δ : Env) (Q : Out → Prop) (k : D → Env → Prop) : Prop :=
  ∃ r o, ct ds r o ∧ match o with
    | none => k r δ
    | some _ => ∃ v1 v2, r = .nd .tup false [.at v1, .at v2] ∧ Q (.xc x [(n2, v2), (n1, v1)] δ)
/-- a turn of a comprehension: the target, the test, the item -/
def compB (own : List Nat) (g : D → Env → (Env → Prop) → Prop) (t : Env → (Bool → Env → Prop) → Prop) (e : Env → (D → Env → Prop) → Prop) (d : D) (δ : Env) (k : Option D → Env → Prop) : Prop :=
  g d δ fun δ1 => t δ1 fun c δ2 => if c = true then e δ2 fun x δ3 => k (some x) (wipeD δ3 own) else k none (wipeD δ2 own)
/-! ### seen, nothing changed -/
mutual
def wpP : E → Env → (D → Prop) → Prop
  | .var i, δ, k => ∃ d, δ[i]? = some (some d) ∧ k d
  | .c v, _, k => k (.at v)
  | .u op e, δ, k => wpP e δ fun d => ev1 op d k
  | .b op a b, δ, k => wpP a δ fun x => wpP b δ fun y => ev2 op x y k
  | .ite t a b, δ, k => wpPT t δ fun c => if c = true then wpP a δ k else wpP b δ k
  | .andV a b, δ, k => wpP a δ fun x => truth x fun c => if c = true then wpP b δ k else k x
  | .orV a b, δ, k => wpP a δ fun x => truth x fun c => if c = true then k x else wpP b δ k
  | .dget d x, δ, k => wpP d δ fun dd => wpP x δ fun y => dget dd y fun o => ∃ r, o = some r ∧ k r
  | .xp w, δ, k => w δ k
  | .mq op a b, δ, k => wpP a δ fun x => (∃ o ds, x = .nd .lst o ds) ∧ wpP b δ fun y => ev2 op x y k
  | .ixd i x, δ, k => ∃ dd, δ[i]? = some (some dd) ∧ wpP x δ fun y => evIxd dd y k
  | .din neg x d, δ, k => wpP x δ fun y => wpP d δ fun dd => dget dd y fun o => k (.at (.bl (if neg = true then !o.isSome else o.isSome)))
  | _, _, _ => False
def wpPT : T → Env → (Bool → Prop) → Prop
  | .v e, δ, k => wpP e δ fun d => truth d k
  | .and a b, δ, k => wpPT a δ fun c => if c = true then wpPT b δ k else k false
  | .or a b, δ, k => wpPT a δ fun c => if c = true then k true else wpPT b δ k
  | .not a, δ, k => wpPT a δ fun c => k (!c)
  | .pt _, _, _ => False
end
section
variable (Γ : Nat → Ct)
mutual
def wpE : E → Env → (D → Env → Prop) → Prop
  | .pv e, δ, Q => wpP e δ fun d => d.froz = true ∧ Q d δ
  | .mv i, δ, Q => ∃ d, δ[i]? = some (some d) ∧ Q d (δ.set i none)
  | .sh i, δ, Q => ∃ d, δ[i]? = some (some d) ∧ Q d.frz (δ.set i (some d.frz))
  | .c v, δ, Q => Q (.at v) δ
  | .u op e, δ, Q => wpE e δ fun d δ1 => ev1 op d fun r => r.froz = true ∧ Q r δ1
  | .b op a b, δ, Q => wpE a δ fun x δ1 => wpE b δ1 fun y δ2 => ev2 op x y fun r => r.froz = true ∧ Q r δ2
  | .ite t a b, δ, Q => wpT t δ fun c δ1 => if c = true then wpE a δ1 Q else wpE b δ1 Q
  | .andV a b, δ, Q => wpE a δ fun x δ1 => truth x fun c => if c = true then wpE b δ1 Q else Q x δ1
  | .orV a b, δ, Q => wpE a δ fun x δ1 => truth x fun c => if c = true then Q x δ1 else wpE b δ1 Q
  | .a1 op e, δ, Q => wpE e δ fun d δ1 => evA1 op d fun r => Q r δ1
  | .av op e, δ, Q => wpP e δ fun d => evA1 op d fun r => Q r δ
  | .vu op e, δ, Q => wpP e δ fun d => ev1 op d fun r => r.froz = true ∧ Q r δ
  | .tup es, δ, Q => wpEs es δ fun ds δ1 => ds.length ≤ sizeLine ∧ Q (.nd .tup false ds) δ1
  | .tupX es, δ, Q => wpEs es δ fun ds δ1 => ds.length ≤ sizeLine ∧ Q (.nd .tup true ds) δ1
  | .lst es, δ, Q => wpEs es δ fun ds δ1 => ds.length ≤ sizeLine ∧ Q (.nd .lst true ds) δ1
  | .dic t, δ, Q => Q (.nd (if t = true then .dT [] else .dK []) true []) δ
  | .cat a b, δ, Q => wpE a δ fun x δ1 => wpE b δ1 fun y δ2 => catW x y δ2 Q
  | .slc e lo hi, δ, Q => wpE e δ fun x δ1 => wpO lo δ1 fun l δ2 => wpO hi δ2 fun h δ3 => slcW x l h δ3 Q
  | .call f es m, δ, Q => wpEs es δ fun ds δ1 => callW (Γ f) m ds δ1 Q
  | .dgetD i k x, δ, Q => (∃ c o ds, δ[i]? = some (some (.nd c o ds)) ∧ c.isDict = true) ∧ wpE k δ fun y δ1 => wpE x δ1 fun z δ2 => ∃ dd, δ2[i]? = some (some dd) ∧ dget dd y fun o => match o with
    | some r => r.froz = true ∧ Q r δ2
    | none => Q z δ2
  | .mth m i es, δ, Q => (∃ o ys, δ[i]? = some (some (.nd .lst o ys))) ∧ wpEs es δ fun ds δ1 => ∃ xs, δ1[i]? = some (some (.nd .lst true xs)) ∧ evM m xs ds fun xs' r => Q r (δ1.set i (some (.nd .lst true xs')))
  | .mthN m i π c, δ, Q => ∃ d xs, δ[i]? = some (some d) ∧ lstAt π d = some xs ∧ evM m xs (match c with | none => [] | some c => [.at (.int c)]) fun xs' r => Q r (δ.set i (some (putAt π d xs')))
  | .comp own it g t e, δ, Q => wpIt it δ fun ds δ1 => forC (compB own (wpG g) (wpOT t) (wpE e)) ds (wipeD δ1 own) [] fun acc δ2 => Q (.nd .lst true acc) (unwipe δ1 δ2 own)
  | .compK own i g t e, δ, Q => ∃ c ds, δ[i]? = some (some (.nd c true ds)) ∧ c.isDict = true ∧ c.base = c ∧ ∀ o, forK (fun δ => δ[i]? = some (some (.nd (c.lock o) true ds))) (compB own (wpG g) (wpOT t) (wpE e)) c.keys (wipeD (δ.set i (some (.nd (c.lock o) true ds))) own) [] fun acc δ2 =>
      Q (.nd .lst true acc) ((unwipe (δ.set i (some (.nd (c.lock o) true ds))) δ2 own).set i (some (.nd c true ds)))
  | .ixL i e, δ, Q => (∃ d0, δ[i]? = some (some d0)) ∧ wpE e δ fun y δ1 => ∃ d, δ1[i]? = some (some d) ∧ evIdx d y fun r => r.froz = true ∧ Q r δ1
  | .xe w, δ, Q => w δ Q
  | .fz i e, δ, Q => ∃ d, δ[i]? = some (some d) ∧ wpE e (δ.set i (some d.frz)) Q
  | .rep a b, δ, Q => wpE a δ fun x δ1 => wpE b δ1 fun y δ2 => repW x y δ2 Q
  | .dcomp own it g t ke ve, δ, Q => wpIt it δ fun ds δ1 => forD (dcB own (wpG g) (wpOT t) (wpE ke) (wpE ve)) ds (wipeD δ1 own) [] [] fun ks vs δ2 => Q (.nd (.dK ks) true vs) (unwipe δ1 δ2 own)
  | .callP f perm es, δ, Q => wpEs es δ fun ds δ1 => callW (Γ f) none (permD perm ds) δ1 Q
  | _, _, _ => False
def wpOT : OT → Env → (Bool → Env → Prop) → Prop
  | .none, δ, Q => Q true δ
  | .some t, δ, Q => wpT t δ Q
def wpO : O → Env → (Option Int → Env → Prop) → Prop
  | .none, δ, Q => Q none δ
  | .some e, δ, Q => wpE e δ fun d δ1 => ∃ i, d = .at (.int i) ∧ Q (some i) δ1
def wpEs : Es → Env → (List D → Env → Prop) → Prop
  | .nil, δ, Q => Q [] δ
  | .cons e es, δ, Q => wpE e δ fun d δ1 => wpEs es δ1 fun ds δ2 => Q (d :: ds) δ2
  | .consL i es, δ, Q => (∃ d0, δ[i]? = some (some d0)) ∧ wpEs es δ fun ds δ1 => ∃ d, δ1[i]? = some (some d) ∧ Q (d :: ds) (δ1.set i none)
def wpT : T → Env → (Bool → Env → Prop) → Prop
  | .pt t, δ, Q => wpPT t δ fun c => Q c δ
  | .v e, δ, Q => wpE e δ fun d δ1 => truth d fun c => Q c δ1
  | .and a b, δ, Q => wpT a δ fun c δ1 => if c = true then wpT b δ1 Q else Q false δ1
  | .or a b, δ, Q => wpT a δ fun c δ1 => if c = true then Q true δ1 else wpT b δ1 Q
  | .not a, δ, Q => wpT a δ fun c δ1 => Q (!c) δ1
def wpIt : It → Env → (List D → Env → Prop) → Prop
  | .seq e, δ, Q => wpE e δ fun d δ1 => seqD d fun ds => Q ds δ1
  | .rng e, δ, Q => wpE e δ fun d δ1 => ∃ n, d = .at (.int n) ∧ -(2 ^ 62) ≤ n ∧ n < 2 ^ 62 ∧ Q ((List.range n.toNat).map fun (i : Nat) => D.at (.int i)) δ1
  | .zip a b, δ, Q => wpE a δ fun x δ1 => wpE b δ1 fun y δ2 => seqD x fun xs => seqD y fun ys => Q (List.zipWith (fun x y => D.nd .tup false [x, y]) xs ys) δ2
  | .enum e, δ, Q => wpE e δ fun d δ1 => seqD d fun ds => Q (ds.mapIdx fun i x => D.nd .tup false [.at (.int i), x]) δ1
  | .rng2 es, δ, Q => wpEs es δ fun ds δ1 => rngW2 ds fun xs => Q xs δ1
  | .str e, δ, Q => wpE e δ fun d δ1 => ∃ x, d = .at (.str x) ∧ Q (x.cps.toList.map fun c => .at (.str ⟨#[c]⟩)) δ1
  | .rng3 es, δ, Q => wpEs es δ fun ds δ1 => rngW3 ds fun xs => Q xs δ1
end
mutual
def wpS : S → Env → (Out → Prop) → Prop
  | .set i e, δ, Q => wpE Γ e δ fun d δ1 => Q (.nx (δ1.set i (some d)))
  | .asg g e, δ, Q => wpE Γ e δ fun d δ1 => wpG g d δ1 fun δ2 => Q (.nx δ2)
  | .ex e, δ, Q => wpE Γ e δ fun _ δ1 => Q (.nx δ1)
  | .setIx i π k e, δ, Q => wpE Γ e δ fun x δ1 => ∃ d xs, δ1[i]? = some (some d) ∧ lstAt π d = some xs ∧ wpP k δ1 fun y => ∃ n j, y = .at (.int n) ∧ ixN xs.length n = some j ∧ Q (.nx (δ1.set i (some (putAt π d (xs.set j x)))))
  | .dput i k e, δ, Q => wpE Γ e δ fun x δ1 => (∃ d0, δ1[i]? = some (some d0)) ∧ wpE Γ k δ1 fun y δ2 => ∃ d, δ2[i]? = some (some d) ∧ dput d y x fun d' => Q (.nx (δ2.set i (some d')))
  | .par i j a b, δ, Q => wpE Γ a δ fun x δ1 => wpE Γ b δ1 fun y δ2 => Q (.nx ((δ2.set i (some x)).set j (some y)))
  | .par3 i j l a b c, δ, Q => wpE Γ a δ fun x δ1 => wpE Γ b δ1 fun y δ2 => wpE Γ c δ2 fun z δ3 => Q (.nx (((δ3.set i (some x)).set j (some y)).set l (some z)))
  | .ret e, δ, Q => wpE Γ e δ fun d δ1 => Q (.rt d δ1)
  | .setIxL i k e, δ, Q => wpE Γ e δ fun x δ1 => (∃ d0, δ1[i]? = some (some d0)) ∧ wpE Γ k δ1 fun y δ2 => ∃ xs n j, δ2[i]? = some (some (.nd .lst true xs)) ∧ y = .at (.int n) ∧ ixN xs.length n = some j ∧ Q (.nx (δ2.set i (some (.nd .lst true (xs.set j x)))))
  | .rse, _, _ => False
  | .rs x n1 n2 a b, δ, Q => wpE Γ a δ fun y δ1 => wpE Γ b δ1 fun z δ2 => ∃ v1 v2, y = .at v1 ∧ z = .at v2 ∧ Q (.xc x [(n2, v2), (n1, v1)] δ2)
  | .setR x n1 n2 i f es, δ, Q => wpEs Γ es δ fun ds δ1 => callR x n1 n2 (Γ f) ds δ1 Q fun r δ2 => Q (.nx (δ2.set i (some r)))
  | .appR x n1 n2 i f es, δ, Q => (∃ o ys, δ[i]? = some (some (.nd .lst o ys))) ∧ wpEs Γ es δ fun ds δ1 => callR x n1 n2 (Γ f) ds δ1 Q fun r δ2 => ∃ xs, δ2[i]? = some (some (.nd .lst true xs)) ∧ xs.length < sizeLine ∧ Q (.nx (δ2.set i (some (.nd .lst true (xs ++ [r])))))
  | .exR x n1 n2 f es, δ, Q => wpEs Γ es δ fun ds δ1 => callR x n1 n2 (Γ f) ds δ1 Q fun _ δ2 => Q (.nx δ2)
  | .xs w, δ, Q => w δ Q
  | .brk, δ, Q => Q (.bk δ)
  | .cnt, δ, Q => Q (.ct δ)
  | .pass, δ, Q => Q (.nx δ)
  | .ite t a b, δ, Q => wpT Γ t δ fun c δ1 => if c = true then wpSs a δ1 Q else wpSs b δ1 Q
  | .whl t b, δ, Q => ∃ n, whlW (wpT Γ t) (wpSs b) n δ Q
  | .fr g it b, δ, Q => wpIt Γ it δ fun ds δ1 => forW (fun d δ q => wpG g d δ fun δ1 => wpSs b δ1 q) ds δ1 Q
def wpSs : Ss → Env → (Out → Prop) → Prop
  | .nil, δ, Q => Q (.nx δ)
  | .cons s ss, δ, Q => wpS s δ fun o => match o with
    | .nx δ1 => wpSs ss δ1 Q
    | o => Q o
end
end
end Z
set_option Elab.async false
set_option linter.all false
set_option maxRecDepth 100000
set_option autoImplicit false
namespace Z
open PySem PySem.Spec PyProof.Rows L2

/-! ## facts of the syntax -/
theorem starEach_cons {e : Expr} {es : List Expr} {env : PySem.Env} (h : ∀ x p, e ≠ .Starred x p) : starEach (e :: es) env = (false, eval e env) :: starEach es env := by
  cases e <;> first | rfl | (exact absurd rfl (h _ _))
/-- no comprehension -/
def noLc : Expr → Bool
  | .ListComp .. => false
  | .SetComp .. => false
  | .DictComp .. => false
  | .Starred .. => false
  | .Set .. => false
  | .Slice .. => false
  | _ => true
theorem noLc_swap {e : Expr} {t : Option Expr} {l : Nat} {env : PySem.Env} (h : noLc e = true) : swapsWith e t l env = pure false := by
  cases e <;> simp [noLc] at h <;> rfl
theorem noLc_fold {e : Expr} {env : PySem.Env} (h : noLc e = true) : ∀ x, foldedSetIterable e env x = pure x := by
  intro x; cases e <;> simp [noLc] at h <;> rfl
theorem noLc_star {e : Expr} {es : List Expr} {env : PySem.Env} (h : noLc e = true) : starEach (e :: es) env = (false, eval e env) :: starEach es env :=
  starEach_cons fun x p z => by rw [z] at h; simp [noLc] at h
theorem noLc_ix {e : Expr} (h : noLc e = true) : PlainIx e := by
  intro o i; cases e <;> simp [noLc] at h <;> rfl
theorem noLc_sl {e : Expr} (h : noLc e = true) : NoSl e := by
  intro o i; cases e <;> simp [noLc] at h <;> rfl
theorem noLc_mark {e : Expr} {op : CmpOp} (h : noLc e = true) : behindInMarks op e = false := by
  cases e <;> simp [noLc] at h <;> rfl
theorem lc_star {elt : Expr} {gs : List Comprehension} {sc : Scope} {pos : Pos} {es : List Expr} {env : PySem.Env} : starEach (.ListComp elt gs sc pos :: es) env = (false, eval (.ListComp elt gs sc pos) env) :: starEach es env := rfl
/-- an expression that may stand as an argument: no star -/
def noStar : Expr → Bool
  | .Starred .. => false
  | _ => true
theorem noStar_star {e : Expr} {es : List Expr} {env : PySem.Env} (h : noStar e = true) : starEach (e :: es) env = (false, eval e env) :: starEach es env :=
  starEach_cons fun x p z => by rw [z] at h; simp [noStar] at h
theorem noStar_any : ∀ {es : List Expr} {env : PySem.Env} {pos : Pos}, es.all noStar = true → (backTo pos (starEach es env)).any (·.1) = false := by
  have key : ∀ {es : List Expr} {env : PySem.Env}, es.all noStar = true → (starEach es env).any (·.1) = false := by
    intro es env
    induction es with
    | nil => intro _; rfl
    | cons e es ih =>
      intro h
      simp only [List.all_cons, Bool.and_eq_true] at h
      rw [noStar_star h.1, List.any_cons, ih h.2]; rfl
  intro es env pos h
  have := key (env := env) h
  generalize starEach es env = l at this
  cases l with
  | nil => rfl
  | cons a l =>
    obtain ⟨x, y⟩ := a
    simp only [List.any_cons, Bool.or_eq_false_iff] at this
    unfold backTo
    first
      | (simp only [List.any_cons, Bool.or_eq_false_iff]; exact this)
      | (simp_all)
/-- what the test of it is worth by its value -/
def plainT : Expr → Bool
  | .UnaryOp .Not _ _ => false
  | .BoolOp .. => false
  | .IfExp .. => false
  | .Compare .. => false
  | _ => true
theorem plainT_ok {e : Expr} {env : PySem.Env} (h : plainT e = true) : ∀ whole, isTrue e env whole = (do let v ← whole; standAt e.pos; holding [v] (truthy v)) := by
  intro whole
  cases e with
  | UnaryOp op a pos => cases op <;> first | rfl | (simp [plainT] at h)
  | _ => first | rfl | (simp [plainT] at h)
theorem noLc_base {e : Expr} {attr : Str} {env : PySem.Env} (h : ∀ x p q, e ≠ .Call (.Name x p) [] [] q) : attributeBase e attr env (eval e env) = eval e env := by
  unfold attributeBase
  cases e with
  | Call f as ks pos =>
    cases f with
    | Name x p =>
      cases as with
      | nil =>
        cases ks with
        | nil => exact absurd rfl (h _ _ _)
        | cons => rfl
      | cons => rfl
    | _ => rfl
  | _ => rfl
end Z
set_option Elab.async false
set_option linter.all false
set_option maxRecDepth 100000
set_option autoImplicit false
namespace Z
open PySem PySem.Spec PyProof.Rows L2

/-! ## readings by value -/
section
variable {X : Cx}
theorem PEmono {e : Expr} {t t' : TE} (h : PE X e t) (i : ∀ σ H Q, t' σ H Q → t σ H Q) : PE X e t' := ⟨fun pins s σ H Q I q => h.run pins s σ H Q I (i σ H Q q)⟩
theorem PTmono {e : Expr} {t t' : TT} (h : PT X e t) (i : ∀ σ H Q, t' σ H Q → t σ H Q) : PT X e t' := ⟨fun pins s σ H Q I q => h.run pins s σ H Q I (i σ H Q q)⟩
theorem PWmono {e : Expr} {t t' : TT} (h : PW X e t) (i : ∀ σ H Q, t' σ H Q → t σ H Q) : PW X e t' := ⟨fun wh pins s σ H Q I q => h.run wh pins s σ H Q I (i σ H Q q)⟩
theorem PAmono {e : List Expr} {t t' : TA} (h : PA X e t) (i : ∀ σ H Q, t' σ H Q → t σ H Q) : PA X e t' := ⟨fun pos pins s σ H Q I q => h.run pos pins s σ H Q I (i σ H Q q)⟩
theorem PSmono {e : Stmt} {t t' : TS} (h : PS X e t) (i : ∀ D σ H, t' D σ H → t D σ H) : PS X e t' := ⟨fun pins s σ H D I q => h.run pins s σ H D I (i D σ H q)⟩
theorem PSsmono {e : List Stmt} {t t' : TS} (h : PSs X e t) (i : ∀ D σ H, t' D σ H → t D σ H) : PSs X e t' := ⟨fun pins s σ H D I q => h.run pins s σ H D I (i D σ H q)⟩
theorem PImono {tg e : Expr} {t t' : TI} (h : PI X tg e t) (i : ∀ σ H Q, t' σ H Q → t σ H Q) : PI X tg e t' := ⟨fun pins s σ H Q I q => h.run pins s σ H Q I (i σ H Q q)⟩
theorem PGmono {e : Expr} {t t' : TG} (h : PG X e t) (i : ∀ v σ H Q, t' v σ H Q → t v σ H Q) : PG X e t' := ⟨fun pins s σ H v u Q I r q => h.run pins s σ H v u Q I r (i v σ H Q q)⟩
theorem PGsmono {e : List Expr} {t t' : TGs} (h : PGs X e t) (i : ∀ v σ H Q, t' v σ H Q → t v σ H Q) : PGs X e t' := ⟨fun pins s σ H v u Q I r q => h.run pins s σ H v u Q I r (i v σ H Q q)⟩
theorem POmono {e : Option Expr} {t t' : TO} (h : PO X e t) (i : ∀ σ H Q, t' σ H Q → t σ H Q) : PO X e t' := ⟨fun pins s σ H Q I q => h.run pins s σ H Q I (i σ H Q q)⟩
end
abbrev WP := Env → (D → Prop) → Prop
abbrev WE := Env → (D → Env → Prop) → Prop
abbrev WPT := Env → (Bool → Prop) → Prop
abbrev WT := Env → (Bool → Env → Prop) → Prop
abbrev WEs := Env → (List D → Env → Prop) → Prop
abbrev WO := Env → (Option Int → Env → Prop) → Prop
abbrev WG := D → Env → (Env → Prop) → Prop
abbrev WS := Env → (Out → Prop) → Prop
def Pn (mu : List Nat) (pn : List (Nat × V)) : Prop := ∀ p ∈ pn, p.1 ∈ mu
theorem takesF {X : Cx} : Takes X (fun _ _ _ _ => False) := fun _ _ x => by
  obtain ⟨_, _, _, _, _, _, _, _, _, _, _, _, _, _, _, _, z⟩ := x
  exact z.elim
section
variable (K : PySem.W.Frag) (mu : List Nat)
def liftP (w : WP) : TE := fun σ H Q => ∃ pn δ Fr R, Pn mu pn ∧ Sim K pn σ δ Fr H ∧ w δ R ∧ ∀ d v, R d → In K H (envR σ δ ++ Fr) v d → Q v H
def liftE (w : WE) : TE := fun σ H Q => ∃ pn δ Fr R, Pn mu pn ∧ Sim K pn σ δ Fr H ∧ w δ R ∧ ∀ d δ' v H', R d δ' → Sim K pn σ δ' (.val v d :: Fr) H' → Q v H'
def liftPT (w : WPT) : TT := fun σ H Q => ∃ pn δ Fr R, Pn mu pn ∧ Sim K pn σ δ Fr H ∧ w δ R ∧ ∀ c, R c → Q c H
def liftT (w : WT) : TT := fun σ H Q => ∃ pn δ Fr R, Pn mu pn ∧ Sim K pn σ δ Fr H ∧ w δ R ∧ ∀ c δ' H', R c δ' → Sim K pn σ δ' Fr H' → Q c H'
def liftO (w : WO) : TO := fun σ H Q => ∃ pn δ Fr R, Pn mu pn ∧ Sim K pn σ δ Fr H ∧ w δ R ∧ ∀ o δ' H', R o δ' → Sim K pn σ δ' Fr H' → Q o H'
/-- ns: the slots that a target stores to -/
def liftG (ns : List Nat) (w : WG) : TG := fun v σ H Q => ∃ pn d δ Fr R, Pn mu pn ∧ Sim K pn σ δ (.val v d :: Fr) H ∧ w d δ R ∧
  ∀ σ' δ', R δ' → σ'.length = σ.length ∧ (∀ i, i ∉ ns → σ'[i]? = σ[i]?) → Sim K pn σ' δ' Fr H → Q σ' H
def liftGs (ns : List Nat) (w : List D → Env → (Env → Prop) → Prop) : TGs := fun vs σ H Q => ∃ pn ds δ Fr R, Pn mu pn ∧ vs.length = ds.length ∧ Sim K pn σ δ (vals vs ds ++ Fr) H ∧ w ds δ R ∧
  ∀ σ' δ', R δ' → σ'.length = σ.length ∧ (∀ i, i ∉ ns → σ'[i]? = σ[i]?) → Sim K pn σ' δ' Fr H → Q σ' H
def liftS (mg : Str → Option Value) (W : WX) (w : WS) : TS := fun Dn σ H => ∃ pn δ Fr R, Pn mu pn ∧ Sim K pn σ δ Fr H ∧ w δ R ∧ (∀ δ' σ' H', R (.nx δ') → Sim K pn σ' δ' Fr H' → Dn.nx σ' H') ∧ (∀ δ' σ' H', R (.bk δ') → Sim K pn σ' δ' Fr H' → Dn.bk σ' H') ∧
  (∀ δ' σ' H', R (.ct δ') → Sim K pn σ' δ' Fr H' → Dn.ct σ' H') ∧ (∀ d δ' v σ' H', R (.rt d δ') → Sim K pn σ' δ' (.val v d :: Fr) H' → Dn.rt v H') ∧
  (∀ x C fs d δ' σ' H', R (.xc x fs δ') → mg x = some (.ref C) → Sim K pn σ' δ' (.cell d (.xd fs) :: Fr) H' → W (.ref C) (some d) σ' H')
/-- what is walked: the items ds while L0 is held -/
structure DWalk (J : L2.It) (ds : List D) (L0 : List Res) : Prop where
  stops : ∀ H L, Good K H (L0 ++ L) → J.stop ds.length H
  goes : ∀ i H L, i < ds.length → Good K H (L0 ++ L) → J.go i H
  yields : ∀ i H L x H' d, ds[i]? = some d → Good K H (L0 ++ L) → J.yld i H x H' → Good K H' (.val x d :: (L0 ++ L))
def liftI (w : WEs) : TI := fun σ H R => ∃ pn δ Fr S, Pn mu pn ∧ Sim K pn σ δ Fr H ∧ w δ S ∧ ∀ ds δ' J L0 H', S ds δ' → DWalk K J ds L0 → Sim K pn σ δ' (L0 ++ Fr) H' → R J H'
end
section
variable {X : Cx} {mu : List Nat} {ex a b : Expr} {wp wp' : WP} {we we' : WE}
/-! ### names and constants -/
theorem p_var {i : Nat} {x : Str} {pos : Pos} (hN : X.N[i]? = some x) (hv : Vis X.env.scope x) (hd : (x == ("__debug__" : Str)) = false) (hcd : (x == ("__classdict__" : Str)) = false) : PE X (.Name x pos) (liftP X.K mu (wpP (.var i))) :=
  PEmono (pe_var hN hv hd hcd) fun σ H Q ⟨pn, δ, Fr, R, hp, s, ⟨d, e, r⟩, q⟩ => let ⟨v, e1, i⟩ := s.get e; ⟨v, e1, q d v r i⟩
theorem p_c {v : V} (h : PE X ex (tC v)) : PE X ex (liftP X.K mu (wpP (.c v))) :=
  PEmono h fun σ H Q ⟨pn, δ, Fr, R, hp, s, r, q⟩ => q _ v r ((s.good.mkat (w := v)).in List.mem_cons_self |> fun i => by
    obtain ⟨O, Z, h, nd, ap⟩ := s.good
    exact ⟨[], [], O, Z, ⟨h, nd, ap⟩, .at v, fun _ h => by simp at h, fun _ h => by simp at h⟩)
theorem e_c {Γ : Nat → Ct} {v : V} (h : PE X ex (tC v)) : PE X ex (liftE X.K mu (wpE Γ (.c v))) :=
  PEmono h fun σ H Q ⟨pn, δ, Fr, R, hp, s, r, q⟩ => q _ δ v H r (s.of s.front.mkat)
theorem e_pv {e : E} {Γ : Nat → Ct} (h : PE X ex (liftP X.K mu (wpP e))) : PE X ex (liftE X.K mu (wpE Γ (.pv e))) :=
  PEmono h fun σ H Q ⟨pn, δ, Fr, R, hp, s, r, q⟩ => ⟨pn, δ, Fr, fun d => d.froz = true ∧ R d δ, hp, s, r, fun d v hr i => q d δ v H hr.2 ⟨s.len, s.ok, s.pin, (i.hold hr.1).perm List.perm_middle.symm⟩⟩
theorem e_mv {Γ : Nat → Ct} {i : Nat} {x : Str} {pos : Pos} (hN : X.N[i]? = some x) (hv : Vis X.env.scope x) (hd : (x == ("__debug__" : Str)) = false) (hcd : (x == ("__classdict__" : Str)) = false) : PE X (.Name x pos) (liftE X.K mu (wpE Γ (.mv i))) :=
  PEmono (pe_var hN hv hd hcd) fun σ H Q ⟨pn, δ, Fr, R, hp, s, ⟨d, e, r⟩, q⟩ => let ⟨v, e1, s1⟩ := s.out e; ⟨v, e1, q d _ v H r s1⟩
theorem froz_frz_aux : True := trivial
mutual
theorem frz_froz : ∀ d : D, d.frz.froz = true
  | .at _ => rfl
  | .nd .tup _ ds => frzL_frozL ds
  | .nd .lst _ ds => frzL_frozL ds
  | .nd (.dK _) _ ds => frzL_frozL ds
  | .nd (.dT _) _ ds => frzL_frozL ds
  | .nd (.lkK _ _) _ ds => frzL_frozL ds
  | .nd (.lkT _ _) _ ds => frzL_frozL ds
theorem frzL_frozL : ∀ ds : List D, frozL (frzL ds) = true
  | [] => rfl
  | d :: ds => by simp only [frzL, frozL, frz_froz d, frzL_frozL ds, Bool.and_self]
end
theorem e_sh {Γ : Nat → Ct} {i : Nat} {x : Str} {pos : Pos} (hN : X.N[i]? = some x) (hv : Vis X.env.scope x) (hd : (x == ("__debug__" : Str)) = false) (hcd : (x == ("__classdict__" : Str)) = false) : PE X (.Name x pos) (liftE X.K mu (wpE Γ (.sh i))) :=
  PEmono (pe_var hN hv hd hcd) fun σ H Q ⟨pn, δ, Fr, R, hp, s, ⟨d, e, r⟩, q⟩ => by
    obtain ⟨v, e1, s1⟩ := s.out e
    refine ⟨v, e1, q d.frz _ v H r ?_⟩
    have g : Good X.K H (.val v d.frz :: (.val v d.frz :: Fr ++ envR σ (δ.set i none))) := (s1.front.frz).dup (frz_froz d)
    have s2 : Sim X.K pn σ (δ.set i none) (.val v d.frz :: .val v d.frz :: Fr) H := s1.of g
    have s3 := s2.back (i := i) e1
    rwa [List.set_set] at s3
/-! ### operations -/
theorem p_u {r : R1} {ev : D → (D → Prop) → Prop} (hs : ∀ ta, PE X a ta → PE X ex (fun σ H Q => ta σ H fun x H1 => r x H1 Q)) (hd : Does1 X r ev) (ha : PE X a (liftP X.K mu wp)) : PE X ex (liftP X.K mu fun δ k => wp δ fun d => ev d k) :=
  PEmono (hs _ ha) fun σ H Q ⟨pn, δ, Fr, R, hp, s, h, q⟩ => ⟨pn, δ, Fr, _, hp, s, h, fun d v hr i => hd _ H v d R Q i hr fun w dr hr' i' => q dr w hr' i'⟩
theorem p_b {r : R2} {ev : D → D → (D → Prop) → Prop} (hs : ∀ ta tb, PE X a ta → PE X b tb → PE X ex (tOp r ta tb)) (hd : Does2 X r ev) (ha : PE X a (liftP X.K mu wp)) (hb : PE X b (liftP X.K mu wp')) : PE X ex (liftP X.K mu fun δ k => wp δ fun x => wp' δ fun y => ev x y k) :=
  PEmono (hs _ _ ha hb) fun σ H Q ⟨pn, δ, Fr, R, hp, s, h, q⟩ => ⟨pn, δ, Fr, _, hp, s, h, fun d v hr i => ⟨pn, δ, Fr, _, hp, s, hr, fun d' v' hr' i' => hd _ H v v' d d' R Q i i' hr' fun w dr hr2 i2 => q dr w hr2 i2⟩⟩
theorem Sim.seen {K : PySem.W.Frag} {pn : List (Nat × V)} {σ : L2.St} {δ : Env} {Fr : List Res} {H : Hp} {v : V} {d : D} (s : Sim K pn σ δ Fr H) (h : Res.val v d ∈ Fr) : In K H (envR σ δ ++ Fr) v d := s.good.in (List.mem_append_right _ h)
theorem Sim.hold {K : PySem.W.Frag} {pn : List (Nat × V)} {σ : L2.St} {δ : Env} {Fr : List Res} {H : Hp} {v : V} {d : D} (s : Sim K pn σ δ Fr H) (i : In K H (envR σ δ ++ Fr) v d) (hf : d.froz = true) : Sim K pn σ δ (.val v d :: Fr) H :=
  ⟨s.len, s.ok, s.pin, (i.hold hf).perm List.perm_middle.symm⟩
theorem Sim.front2 {K : PySem.W.Frag} {pn : List (Nat × V)} {σ : L2.St} {δ : Env} {A Fr : List Res} {H : Hp} (s : Sim K pn σ δ (A ++ Fr) H) : Good K H (A ++ (Fr ++ envR σ δ)) := by
  rw [← List.append_assoc]; exact s.front
theorem Sim.ofc {K : PySem.W.Frag} {pn : List (Nat × V)} {σ : L2.St} {δ : Env} {A Fr : List Res} {r : Res} {H H' : Hp} (s : Sim K pn σ δ A H) (g : Good K H' (r :: (Fr ++ envR σ δ))) : Sim K pn σ δ (r :: Fr) H' := ⟨s.len, s.ok, s.pin, g.perm (List.perm_append_comm (l₁ := r :: Fr))⟩
theorem Sim.ofA {K : PySem.W.Frag} {pn : List (Nat × V)} {σ : L2.St} {δ : Env} {A B Fr : List Res} {H H' : Hp} (s : Sim K pn σ δ A H) (g : Good K H' (B ++ (Fr ++ envR σ δ))) : Sim K pn σ δ (B ++ Fr) H' := ⟨s.len, s.ok, s.pin, g.perm (by rw [← List.append_assoc]; exact List.perm_append_comm)⟩
/-- what lies below the front is forgotten -/
theorem Sim.under {K : PySem.W.Frag} {pn : List (Nat × V)} {σ : L2.St} {δ : Env} {r : Res} {L Fr : List Res} {H : Hp} (s : Sim K pn σ δ (r :: (L ++ Fr)) H) : Sim K pn σ δ (r :: Fr) H :=
  Sim.dropL (Fr := L) (s.perm (List.perm_middle.symm))
theorem e_u {r : R1} {ev : D → (D → Prop) → Prop} (hs : ∀ ta, PE X a ta → PE X ex (fun σ H Q => ta σ H fun x H1 => r x H1 Q)) (hd : Does1 X r ev) (ha : PE X a (liftE X.K mu we)) : PE X ex (liftE X.K mu fun δ k => we δ fun d δ1 => ev d fun r => r.froz = true ∧ k r δ1) :=
  PEmono (hs _ ha) fun σ H Q ⟨pn, δ, Fr, R, hp, s, h, q⟩ => ⟨pn, δ, Fr, _, hp, s, h, fun d δ1 v H1 hr s1 => hd _ H1 v d _ Q (s1.seen List.mem_cons_self) hr fun w dr hr' i' =>
    q dr δ1 w H1 hr'.2 ((s1.hold i' hr'.1).under (L := [_]))⟩
theorem e_b {r : R2} {ev : D → D → (D → Prop) → Prop} (hs : ∀ ta tb, PE X a ta → PE X b tb → PE X ex (tOp r ta tb)) (hd : Does2 X r ev) (ha : PE X a (liftE X.K mu we)) (hb : PE X b (liftE X.K mu we')) :
    PE X ex (liftE X.K mu fun δ k => we δ fun x δ1 => we' δ1 fun y δ2 => ev x y fun r => r.froz = true ∧ k r δ2) :=
  PEmono (hs _ _ ha hb) fun σ H Q ⟨pn, δ, Fr, R, hp, s, h, q⟩ => ⟨pn, δ, Fr, _, hp, s, h, fun d δ1 v H1 hr s1 => ⟨pn, δ1, _, _, hp, s1, hr, fun d' δ2 v' H2 hr' s2 =>
    hd _ H2 v v' d d' _ Q (s2.seen (by simp)) (s2.seen (by simp)) hr' fun w dr hr2 i2 => q dr δ2 w H2 hr2.2 ((s2.hold i2 hr2.1).under (L := [_, _]))⟩⟩
/-- r makes a new value out of a seen one -/
def DoesA (X : Cx) (r : R1) (ev : D → (D → Prop) → Prop) : Prop := ∀ (L : List Res) (H : Hp) (v : V) (d : D) (R : D → Prop) (Q : VK), In X.K H L v d → ev d R → (∀ w H' dr, R dr → Good X.K H' (.val w dr :: L) → Q w H') → r v H Q
theorem e_a1 {r : R1} {ev : D → (D → Prop) → Prop} (hs : ∀ ta, PE X a ta → PE X ex (fun σ H Q => ta σ H fun x H1 => r x H1 Q)) (hd : DoesA X r ev) (ha : PE X a (liftE X.K mu we)) : PE X ex (liftE X.K mu fun δ k => we δ fun d δ1 => ev d fun r => k r δ1) :=
  PEmono (hs _ ha) fun σ H Q ⟨pn, δ, Fr, R, hp, s, h, q⟩ => ⟨pn, δ, Fr, _, hp, s, h, fun d δ1 v H1 hr s1 => hd _ H1 v d _ Q (s1.seen List.mem_cons_self) hr fun w H2 dr hr' g =>
    q dr δ1 w H2 hr' (Sim.under (L := [_]) ⟨s1.len, s1.ok, s1.pin, g.perm List.perm_middle.symm⟩)⟩
theorem e_av {r : R1} {ev : D → (D → Prop) → Prop} (hs : ∀ ta, PE X a ta → PE X ex (fun σ H Q => ta σ H fun x H1 => r x H1 Q)) (hd : DoesA X r ev) (ha : PE X a (liftP X.K mu wp)) : PE X ex (liftE X.K mu fun δ k => wp δ fun d => ev d fun r => k r δ) :=
  PEmono (hs _ ha) fun σ H Q ⟨pn, δ, Fr, R, hp, s, h, q⟩ => ⟨pn, δ, Fr, _, hp, s, h, fun d v hr i => hd _ H v d _ Q i hr fun w H2 dr hr' g =>
    q dr δ w H2 hr' ⟨s.len, s.ok, s.pin, g.perm List.perm_middle.symm⟩⟩
end
end Z
set_option Elab.async false
set_option linter.all false
set_option maxRecDepth 100000
set_option autoImplicit false
namespace Z
open PySem PySem.Spec PyProof.Rows L2
section
variable {X : Cx} {mu : List Nat} {ex a b : Expr} {wp wp' : WP} {we we' : WE} {wt wt' : WPT} {wu wu' : WT} {pos : Pos} {K : PySem.W.Frag} {H : Hp} {L : List Res} {v : V} {d : D}
/-- the items of a seen thing, frozen, may be held -/
theorem In.holdL {k : Kd} {o : Bool} {ds : List D} (h : In K H L v (.nd k o ds)) (hf : frozL ds = true) : ∃ a vs, v = .ref a ∧ vs.length = ds.length ∧ RdK K H a k vs ∧ Good K H (vals vs ds ++ L) := by
  obtain ⟨O, Z, OL, ZL, ⟨q, nd, ap⟩, r, h1, h2⟩ := h
  have fin : ∀ {vs : List V} {O1 Z1 : List Addr}, RepL K H vs ds O1 Z1 → (∀ a ∈ Z1, a ∈ ZL) → Good K H (vals vs ds ++ L) := by
    intro vs O1 Z1 t s
    have e := t.frozO hf
    subst e
    refine ⟨_, _, (Owns.of_repL t).app q, nd, fun a ha hz => ?_⟩
    rcases List.mem_append.mp hz with hz | hz
    · exact ap a ha (s a hz)
    · exact ap a ha hz
  cases r with
  | tup e t => exact ⟨_, _, rfl, t.length, e.rd, fin t h2⟩
  | own e1 e2 e3 t =>
    refine ⟨_, _, rfl, t.length, ?_, fin t h2⟩
    cases k with
    | tup => simp [Kd.isTup] at e1
    | lst => exact Or.inl (Or.inl e2)
    | dK ks => exact Or.inl e2
    | dT ks => exact Or.inl e2
    | lkK o ks => exact Or.inr ⟨_, e2⟩
    | lkT o ks => exact Or.inr ⟨_, e2⟩
  | fro e1 e2 e3 t => exact ⟨_, _, rfl, t.length, e2.rdK, fin t fun a h => h2 a (List.mem_cons_of_mem _ h)⟩
  | kst e t => exact ⟨_, _, rfl, t.length, .inr e, fin t h2⟩
theorem In.holdT {o : Bool} {ds : List D} (h : In K H L v (.nd .tup o ds)) (hf : frozL ds = true) : ∃ a vs, v = .ref a ∧ vs.length = ds.length ∧ TupAt o H a vs ∧ Good K H (vals vs ds ++ L) := by
  obtain ⟨O, Z, OL, ZL, ⟨q, nd, ap⟩, r, h1, h2⟩ := h
  cases r with
  | tup e t =>
    have e0 := t.frozO hf
    subst e0
    refine ⟨_, _, rfl, t.length, e, _, _, (Owns.of_repL t).app q, nd, fun a ha hz => ?_⟩
    rcases List.mem_append.mp hz with hz | hz
    · exact ap a ha (h2 a hz)
    · exact ap a ha hz
  | own e1 => simp [Kd.isTup] at e1
  | fro e1 => simp [Kd.isTup] at e1
/-! ### tests -/
theorem pt_v (hp : plainT ex = true) (h : PE X ex (liftP X.K mu wp)) : PT X ex (liftPT X.K mu fun δ k => wp δ fun d => truth d k) :=
  PTmono (pt_truth h (plainT_ok hp)) fun σ H Q ⟨pn, δ, Fr, R, hp, s, h, q⟩ => ⟨pn, δ, Fr, _, hp, s, h, fun d v hr i => let ⟨k, t, r⟩ := truth_ok i hr; ⟨k, t, q k r⟩⟩
theorem et_v (hp : plainT ex = true) (h : PE X ex (liftE X.K mu we)) : PT X ex (liftT X.K mu fun δ k => we δ fun d δ1 => truth d fun c => k c δ1) :=
  PTmono (pt_truth h (plainT_ok hp)) fun σ H Q ⟨pn, δ, Fr, R, hp, s, h, q⟩ => ⟨pn, δ, Fr, _, hp, s, h, fun d δ1 v H1 hr s1 => let ⟨k, t, r⟩ := truth_ok (s1.seen List.mem_cons_self) hr; ⟨k, t, q k δ1 H1 r s1.drop⟩⟩
/-- a comparison hands back a bool -/
def EvB (ev : D → D → (D → Prop) → Prop) : Prop := ∀ x y k, ev x y k → ev x y fun r => ∃ c, r = .at (.bl c) ∧ k r
theorem pt_b {op : CmpOp} {r : R2} {ev : D → D → (D → Prop) → Prop} (ho : OpR X (compareOp op) r) (hd : Does2 X r ev) (hb : EvB ev) (h1 : PE X a (liftP X.K mu wp)) (h2 : PE X b (liftP X.K mu wp')) (hm : behindInMarks op b = false) :
    PT X (.Compare a [op] [b] pos) (liftPT X.K mu fun δ k => wp δ fun x => wp' δ fun y => ev x y fun d => truth d k) :=
  PTmono (pt_cmpR ho h1 h2 hm) fun σ H Q ⟨pn, δ, Fr, R, hp, s, h, q⟩ => ⟨pn, δ, Fr, _, hp, s, h, fun d v hr i => ⟨pn, δ, Fr, _, hp, s, hr, fun d' v' hr' i' => hd _ H v v' d d' _ _ i i' (hb _ _ _ hr') fun w dr hr2 i2 => by
    obtain ⟨c, rfl, hc⟩ := hr2
    exact ⟨c, i2.at, q c hc⟩⟩⟩
theorem et_b {op : CmpOp} {r : R2} {ev : D → D → (D → Prop) → Prop} (ho : OpR X (compareOp op) r) (hd : Does2 X r ev) (hb : EvB ev) (h1 : PE X a (liftE X.K mu we)) (h2 : PE X b (liftE X.K mu we')) (hm : behindInMarks op b = false) :
    PT X (.Compare a [op] [b] pos) (liftT X.K mu fun δ k => we δ fun x δ1 => we' δ1 fun y δ2 => ev x y fun r => r.froz = true ∧ truth r fun c => k c δ2) :=
  PTmono (pt_cmpR ho h1 h2 hm) fun σ H Q ⟨pn, δ, Fr, R, hp, s, h, q⟩ => ⟨pn, δ, Fr, _, hp, s, h, fun d δ1 v H1 hr s1 => ⟨pn, δ1, _, _, hp, s1, hr, fun d' δ2 v' H2 hr' s2 =>
    hd _ H2 v v' d d' _ _ (s2.seen (by simp)) (s2.seen (by simp)) (hb _ _ _ hr') fun w dr hr2 i2 => by
      obtain ⟨c, rfl, _, hc⟩ := hr2
      exact ⟨c, i2.at, q c δ2 H2 hc (s2.drop.drop)⟩⟩⟩
theorem pt_and {rest : List Expr} (h1 : PT X a (liftPT X.K mu wt)) (h2 : PW X (.BoolOp .And (b :: rest) pos) (liftPT X.K mu wt')) : PW X (.BoolOp .And (a :: b :: rest) pos) (liftPT X.K mu fun δ k => wt δ fun c => if c = true then wt' δ k else k false) :=
  PWmono (pw_and h1 h2) fun σ H Q ⟨pn, δ, Fr, R, hp, s, h, q⟩ => ⟨pn, δ, Fr, _, hp, s, h, fun c hc => by
    cases c with
    | true => exact ⟨pn, δ, Fr, R, hp, s, hc, q⟩
    | false => exact q false hc⟩
theorem pt_or {rest : List Expr} (h1 : PT X a (liftPT X.K mu wt)) (h2 : PW X (.BoolOp .Or (b :: rest) pos) (liftPT X.K mu wt')) : PW X (.BoolOp .Or (a :: b :: rest) pos) (liftPT X.K mu fun δ k => wt δ fun c => if c = true then k true else wt' δ k) :=
  PWmono (pw_or h1 h2) fun σ H Q ⟨pn, δ, Fr, R, hp, s, h, q⟩ => ⟨pn, δ, Fr, _, hp, s, h, fun c hc => by
    cases c with
    | true => exact q true hc
    | false => exact ⟨pn, δ, Fr, R, hp, s, hc, q⟩⟩
theorem ptn (h : PT X a (liftPT X.K mu wt)) : PT X (.UnaryOp .Not a pos) (liftPT X.K mu fun δ k => wt δ fun c => k !c) :=
  PTmono (pt_not h) fun σ H Q ⟨pn, δ, Fr, R, hp, s, h, q⟩ => ⟨pn, δ, Fr, _, hp, s, h, fun c hc => q _ hc⟩
theorem et_and {rest : List Expr} (h1 : PT X a (liftT X.K mu wu)) (h2 : PW X (.BoolOp .And (b :: rest) pos) (liftT X.K mu wu')) : PW X (.BoolOp .And (a :: b :: rest) pos) (liftT X.K mu fun δ k => wu δ fun c δ1 => if c = true then wu' δ1 k else k false δ1) :=
  PWmono (pw_and h1 h2) fun σ H Q ⟨pn, δ, Fr, R, hp, s, h, q⟩ => ⟨pn, δ, Fr, _, hp, s, h, fun c δ1 H1 hc s1 => by
    cases c with
    | true => exact ⟨pn, δ1, Fr, R, hp, s1, hc, q⟩
    | false => exact q false δ1 H1 hc s1⟩
theorem et_or {rest : List Expr} (h1 : PT X a (liftT X.K mu wu)) (h2 : PW X (.BoolOp .Or (b :: rest) pos) (liftT X.K mu wu')) : PW X (.BoolOp .Or (a :: b :: rest) pos) (liftT X.K mu fun δ k => wu δ fun c δ1 => if c = true then k true δ1 else wu' δ1 k) :=
  PWmono (pw_or h1 h2) fun σ H Q ⟨pn, δ, Fr, R, hp, s, h, q⟩ => ⟨pn, δ, Fr, _, hp, s, h, fun c δ1 H1 hc s1 => by
    cases c with
    | true => exact q true δ1 H1 hc s1
    | false => exact ⟨pn, δ1, Fr, R, hp, s1, hc, q⟩⟩
theorem etn (h : PT X a (liftT X.K mu wu)) : PT X (.UnaryOp .Not a pos) (liftT X.K mu fun δ k => wu δ fun c δ1 => k (!c) δ1) :=
  PTmono (pt_not h) fun σ H Q ⟨pn, δ, Fr, R, hp, s, h, q⟩ => ⟨pn, δ, Fr, _, hp, s, h, fun c δ1 H1 hc s1 => q _ δ1 H1 hc s1⟩
theorem et_pt (h : PT X ex (liftPT X.K mu wt)) : PT X ex (liftT X.K mu fun δ k => wt δ fun c => k c δ) :=
  PTmono h fun σ H Q ⟨pn, δ, Fr, R, hp, s, h, q⟩ => ⟨pn, δ, Fr, _, hp, s, h, fun c hc => q c δ H hc s⟩
theorem ew_pt (h : PW X ex (liftPT X.K mu wt)) : PW X ex (liftT X.K mu fun δ k => wt δ fun c => k c δ) :=
  PWmono h fun σ H Q ⟨pn, δ, Fr, R, hp, s, h, q⟩ => ⟨pn, δ, Fr, _, hp, s, h, fun c hc => q c δ H hc s⟩
/-! ### a if t else b; and, or as values -/
theorem p_ite {c : Expr} (hc : PT X c (liftPT X.K mu wt)) (ha : PE X a (liftP X.K mu wp)) (hb : PE X b (liftP X.K mu wp')) : PE X (.IfExp c a b pos) (liftP X.K mu fun δ k => wt δ fun c => if c = true then wp δ k else wp' δ k) :=
  PEmono (pe_ifExp hc ha hb) fun σ H Q ⟨pn, δ, Fr, R, hp, s, h, q⟩ => ⟨pn, δ, Fr, _, hp, s, h, fun c hc => by
    cases c with
    | true => exact ⟨pn, δ, Fr, R, hp, s, hc, q⟩
    | false => exact ⟨pn, δ, Fr, R, hp, s, hc, q⟩⟩
theorem e_ite {c : Expr} (hc : PT X c (liftT X.K mu wu)) (ha : PE X a (liftE X.K mu we)) (hb : PE X b (liftE X.K mu we')) : PE X (.IfExp c a b pos) (liftE X.K mu fun δ k => wu δ fun c δ1 => if c = true then we δ1 k else we' δ1 k) :=
  PEmono (pe_ifExp hc ha hb) fun σ H Q ⟨pn, δ, Fr, R, hp, s, h, q⟩ => ⟨pn, δ, Fr, _, hp, s, h, fun c δ1 H1 hc s1 => by
    cases c with
    | true => exact ⟨pn, δ1, Fr, R, hp, s1, hc, q⟩
    | false => exact ⟨pn, δ1, Fr, R, hp, s1, hc, q⟩⟩
theorem p_and {rest : List Expr} (ha : PE X a (liftP X.K mu wp)) (hb : PE X (.BoolOp .And (b :: rest) pos) (liftP X.K mu wp')) : PE X (.BoolOp .And (a :: b :: rest) pos) (liftP X.K mu fun δ k => wp δ fun x => truth x fun c => if c = true then wp' δ k else k x) :=
  PEmono (pe_andT ha hb) fun σ H Q ⟨pn, δ, Fr, R, hp, s, h, q⟩ => ⟨pn, δ, Fr, _, hp, s, h, fun d v hr i => by
    obtain ⟨c, t, r⟩ := truth_ok i hr
    refine ⟨c, t, ?_⟩
    cases c with
    | true => exact ⟨pn, δ, Fr, R, hp, s, r, q⟩
    | false => exact q d v r i⟩
theorem p_or {rest : List Expr} (ha : PE X a (liftP X.K mu wp)) (hb : PE X (.BoolOp .Or (b :: rest) pos) (liftP X.K mu wp')) : PE X (.BoolOp .Or (a :: b :: rest) pos) (liftP X.K mu fun δ k => wp δ fun x => truth x fun c => if c = true then k x else wp' δ k) :=
  PEmono (pe_orT ha hb) fun σ H Q ⟨pn, δ, Fr, R, hp, s, h, q⟩ => ⟨pn, δ, Fr, _, hp, s, h, fun d v hr i => by
    obtain ⟨c, t, r⟩ := truth_ok i hr
    refine ⟨c, t, ?_⟩
    cases c with
    | true => exact q d v r i
    | false => exact ⟨pn, δ, Fr, R, hp, s, r, q⟩⟩
theorem e_and {rest : List Expr} (ha : PE X a (liftE X.K mu we)) (hb : PE X (.BoolOp .And (b :: rest) pos) (liftE X.K mu we')) : PE X (.BoolOp .And (a :: b :: rest) pos) (liftE X.K mu fun δ k => we δ fun x δ1 => truth x fun c => if c = true then we' δ1 k else k x δ1) :=
  PEmono (pe_andT ha hb) fun σ H Q ⟨pn, δ, Fr, R, hp, s, h, q⟩ => ⟨pn, δ, Fr, _, hp, s, h, fun d δ1 v H1 hr s1 => by
    obtain ⟨c, t, r⟩ := truth_ok (s1.seen List.mem_cons_self) hr
    refine ⟨c, t, ?_⟩
    cases c with
    | true => exact ⟨pn, δ1, Fr, R, hp, s1.drop, r, q⟩
    | false => exact q d δ1 v H1 r s1⟩
theorem e_or {rest : List Expr} (ha : PE X a (liftE X.K mu we)) (hb : PE X (.BoolOp .Or (b :: rest) pos) (liftE X.K mu we')) : PE X (.BoolOp .Or (a :: b :: rest) pos) (liftE X.K mu fun δ k => we δ fun x δ1 => truth x fun c => if c = true then k x δ1 else we' δ1 k) :=
  PEmono (pe_orT ha hb) fun σ H Q ⟨pn, δ, Fr, R, hp, s, h, q⟩ => ⟨pn, δ, Fr, _, hp, s, h, fun d δ1 v H1 hr s1 => by
    obtain ⟨c, t, r⟩ := truth_ok (s1.seen List.mem_cons_self) hr
    refine ⟨c, t, ?_⟩
    cases c with
    | true => exact q d δ1 v H1 r s1
    | false => exact ⟨pn, δ1, Fr, R, hp, s1.drop, r, q⟩⟩
/-! ### argument lists; tuples and lists written -/
/-- which arguments are names, of which slots -/
def BsOk (σ : L2.St) (bs : List (Nat × Nat)) (vs : List V) : Prop := ∀ p ∈ bs, ∃ v, σ[p.2]? = some (some v) ∧ vs[p.1]? = some v
def liftEs (K : PySem.W.Frag) (mu : List Nat) (bs : List (Nat × Nat)) (w : WEs) : TA := fun σ H Q => ∃ pn δ Fr R, Pn mu pn ∧ Sim K pn σ δ Fr H ∧ w δ R ∧ ∀ ds δ' vs H', R ds δ' → vs.length = ds.length → BsOk σ bs vs → Sim K pn σ δ' (vals vs ds ++ Fr) H' → Q vs H'
theorem vals_cons {v : V} {vs : List V} {d : D} {ds : List D} : vals (v :: vs) (d :: ds) = .val v d :: vals vs ds := rfl
theorem ea_nil : PA X [] (liftEs X.K mu [] fun δ Q => Q [] δ) :=
  PAmono pa_nil fun σ H Q ⟨pn, δ, Fr, R, hp, s, h, q⟩ => q [] δ [] H h rfl (fun _ z => by simp at z) s
theorem ea_cons {es : List Expr} {bs : List (Nat × Nat)} {ws : WEs} (hs : noStar ex = true) (h : PE X ex (liftE X.K mu we)) (hr : PA X es (liftEs X.K mu bs ws)) :
    PA X (ex :: es) (liftEs X.K mu (bs.map fun p => (p.1 + 1, p.2)) fun δ Q => we δ fun d δ1 => ws δ1 fun ds δ2 => Q (d :: ds) δ2) :=
  PAmono (pa_cons h hr (noStar_star hs)) fun σ H Q ⟨pn, δ, Fr, R, hp, s, h, q⟩ => ⟨pn, δ, Fr, _, hp, s, h, fun d δ1 v H1 hr s1 => ⟨pn, δ1, _, _, hp, s1, hr, fun ds δ2 vs H2 hr2 hl hb s2 =>
    q (d :: ds) δ2 (v :: vs) H2 hr2 (by simp [hl]) (fun p hm => by
      obtain ⟨p', hm', rfl⟩ := List.mem_map.mp hm
      obtain ⟨w, e1, e2⟩ := hb p' hm'
      exact ⟨w, e1, by simpa using e2⟩) (s2.perm List.perm_middle)⟩⟩
theorem ea_mv {Γ : Nat → Ct} {es : List Expr} {bs : List (Nat × Nat)} {ws : WEs} {i : Nat} {x : Str} (hN : X.N[i]? = some x) (hv : Vis X.env.scope x) (hd : (x == ("__debug__" : Str)) = false) (hcd : (x == ("__classdict__" : Str)) = false) (hr : PA X es (liftEs X.K mu bs ws)) :
    PA X (.Name x pos :: es) (liftEs X.K mu ((0, i) :: bs.map fun p => (p.1 + 1, p.2)) fun δ Q => wpE Γ (.mv i) δ fun d δ1 => ws δ1 fun ds δ2 => Q (d :: ds) δ2) :=
  PAmono (pa_cons (pe_var hN hv hd hcd) hr rfl) fun σ H Q ⟨pn, δ, Fr, R, hp, s, ⟨d, e, h⟩, q⟩ => by
    obtain ⟨v, e1, s1⟩ := s.out e
    refine ⟨v, e1, pn, _, _, _, hp, s1, h, fun ds δ2 vs H2 hr2 hl hb s2 => q (d :: ds) δ2 (v :: vs) H2 hr2 (by simp [hl]) (fun p hm => ?_) (s2.perm List.perm_middle)⟩
    rcases List.mem_cons.mp hm with rfl | hm
    · exact ⟨v, e1, rfl⟩
    · obtain ⟨p', hm', rfl⟩ := List.mem_map.mp hm
      obtain ⟨w, e2, e3⟩ := hb p' hm'
      exact ⟨w, e2, by simpa using e3⟩
/-- a name, the slot taken when the rest is done -/
theorem ea_ml {es : List Expr} {bs : List (Nat × Nat)} {ws : WEs} {i : Nat} {x : Str} (hN : X.N[i]? = some x) (hv : Vis X.env.scope x) (hd : (x == ("__debug__" : Str)) = false) (hcd : (x == ("__classdict__" : Str)) = false) (hr : PA X es (liftEs X.K mu bs ws)) :
    PA X (.Name x pos :: es) (liftEs X.K mu ((0, i) :: bs.map fun p => (p.1 + 1, p.2)) fun δ Q => (∃ d0, δ[i]? = some (some d0)) ∧ ws δ fun ds δ1 => ∃ d, δ1[i]? = some (some d) ∧ Q (d :: ds) (δ1.set i none)) :=
  PAmono (pa_cons (pe_var hN hv hd hcd) hr rfl) fun σ H Q ⟨pn, δ, Fr, R, hp, s, ⟨⟨d0, e0⟩, h⟩, q⟩ => by
    obtain ⟨v, e1⟩ := s.ok i d0 e0
    refine ⟨v, e1, pn, δ, Fr, _, hp, s, h, fun ds δ2 vs H2 ⟨d, e2, hr2⟩ hl hb s2 => ?_⟩
    obtain ⟨v', e3, s3⟩ := s2.out e2
    obtain rfl : v = v' := by rw [e1] at e3; exact Option.some.inj (Option.some.inj e3)
    refine q (d :: ds) _ (v :: vs) H2 hr2 (by simp [hl]) (fun p hm => ?_) s3
    rcases List.mem_cons.mp hm with rfl | hm
    · exact ⟨v, e1, rfl⟩
    · obtain ⟨p', hm', rfl⟩ := List.mem_map.mp hm
      obtain ⟨w, e2, e3⟩ := hb p' hm'
      exact ⟨w, e2, by simpa using e3⟩
theorem e_tup {es : List Expr} {bs : List (Nat × Nat)} {ws : WEs} {k : Nat} (h : PA X es (liftEs X.K mu bs ws)) : PE X (.Tuple es k pos) (liftE X.K mu fun δ Q => ws δ fun ds δ1 => ds.length ≤ sizeLine ∧ Q (.nd .tup false ds) δ1) :=
  PEmono (pe_tup h) fun σ H Q ⟨pn, δ, Fr, R, hp, s, h, q⟩ => ⟨pn, δ, Fr, _, hp, s, h, fun ds δ1 vs H1 hr hl hb s1 => ⟨by rw [hl]; exact hr.1, fun p np =>
    q _ δ1 _ _ hr.2 (s1.ofc (Good.mktup hl upd_same (s1.front2.same (same_new np))))⟩⟩
theorem e_lst {es : List Expr} {bs : List (Nat × Nat)} {ws : WEs} (h : PA X es (liftEs X.K mu bs ws)) : PE X (.List es pos) (liftE X.K mu fun δ Q => ws δ fun ds δ1 => ds.length ≤ sizeLine ∧ Q (.nd .lst true ds) δ1) :=
  PEmono (pe_lst h) fun σ H Q ⟨pn, δ, Fr, R, hp, s, h, q⟩ => ⟨pn, δ, Fr, _, hp, s, h, fun ds δ1 vs H1 hr hl hb s1 => ⟨by rw [hl]; exact hr.1, fun p np =>
    q _ δ1 _ _ hr.2 (s1.ofc (Good.pack (k := .lst) rfl hl trivial (s1.front2.alloc np trivial)))⟩⟩
theorem e_dic {t : Bool} : PE X (.Dict [] [] pos) (liftE X.K mu fun δ Q => Q (.nd (if t = true then .dT [] else .dK []) true []) δ) := by
  cases t with
  | false => exact PEmono pe_dnewK fun σ H Q ⟨pn, δ, Fr, R, hp, s, h, q⟩ p np => q _ δ _ _ h (s.of (Good.pack (k := .dK []) (vs := []) (ds := []) rfl rfl ⟨rfl, .nil⟩ (s.front.alloc np trivial)))
  | true => exact PEmono pe_dnewT fun σ H Q ⟨pn, δ, Fr, R, hp, s, h, q⟩ p np => q _ δ _ _ h (s.of (Good.pack (k := .dT []) (vs := []) (ds := []) rfl rfl ⟨rfl, .nil⟩ (s.front.alloc np trivial)))
end
end Z
set_option Elab.async false
set_option linter.all false
set_option maxRecDepth 100000
set_option autoImplicit false
namespace Z
open PySem PySem.Spec PyProof.Rows L2

/-! ## defs -/
def outR (mp : Option Nat) (vs : List V) (o : Option D) : List Res := match mp, o with
  | some k, some d => match vs[k]? with
    | some v => [.val v d]
    | none => []
  | _, _ => []
/-- the promise of a def: ct of its arguments' data -/
def spOf (K : PySem.W.Frag) (n : Nat) (mp : Option Nat) (ct : Ct) : Sp := fun vs H Q _ => ∃ ds Fr r o, vs.length = n ∧ vs.length = ds.length ∧ Good K H (vals vs ds ++ Fr) ∧ ct ds r o ∧
  ∀ v H', Good K H' (.val v r :: (outR mp vs o ++ Fr)) → Q v H'
/-- how a call with keywords alone binds: ks the names, in the call's order; perm: which of them each parameter takes -/
def KwOk (K : PySem.W.Frag) (fd : FuncData) (ps : List Str) (n : Nat) (kp : List Str × List Nat) : Prop := ∃ g gV, KBinds K fd ps kp.1 g gV ∧ kp.2.Perm (List.range n) ∧ ∀ zs : List V, zs.length = n → gV [] zs = kp.2.map fun j => zs.getD j .non
structure FnX (X : Cx) (x : Str) (n : Nat) (mp : Option Nat) (kw : List (List Str × List Nat)) (ct : Ct) : Prop where
  len : ∀ ds r o, ct ds r o → ds.length = n
  ex : ∃ k f fd ps, FnOk X.prog X.w X.K X.mg X.base CX0 k f fd ps (spOf X.K n mp ct) ∧ Room k X.A ∧ X.mg x = some (.ref f) ∧ PySem.W.keepIn X.K (.ref f) = true ∧ Binds X.K fd ps [] ∧ ∀ kp ∈ kw, KwOk X.K fd ps n kp
section
variable {X : Cx} {mu : List Nat} {ex a b : Expr} {wp wp' : WP} {we we' : WE} {wt wt' : WPT} {wu wu' : WT} {pos : Pos} {K : PySem.W.Frag} {H : Hp} {L : List Res} {v : V} {d : D}
theorem e_call {x : Str} {p : Pos} {n : Nat} {mp : Option Nat} {ct : Ct} {e : Expr} {es : List Expr} {bs : List (Nat × Nat)} {ws : WEs} {m : Option (Nat × Nat)} {kw : List (List Str × List Nat)} (F : FnX X x n mp kw ct) (hg : Gl X x) (hdb : (x == ("__debug__" : Str)) = false)
    (hs : (e :: es).all noStar = true) (hm : ∀ k i, m = some (k, i) → mp = some k ∧ (k, i) ∈ bs) (ha : PA X (e :: es) (liftEs X.K mu bs ws)) :
    PE X (.Call (.Name x p) (e :: es) [] pos) (liftE X.K mu fun δ Q => ws δ fun ds δ1 => callW ct m ds δ1 Q) := by
  have hlen := F.len
  obtain ⟨k, f, fd, ps, F, hr, hmg, hk, hb, _⟩ := F.ex
  simp only [List.all_cons, Bool.and_eq_true] at hs
  refine PEmono (pe_call F hr hg hmg hk hb .nil pass0 ha hdb (noStar_star hs.1) (noStar_any hs.2)) fun σ H Q ⟨pn, δ, Fr, R, hp, s, h, q⟩ => ?_
  refine ⟨pn, δ, Fr, _, hp, s, h, fun ds δ1 vs H1 h1 hl hb s1 => ?_⟩
  show spOf X.K n mp ct (vs ++ []) H1 Q E0
  rw [List.append_nil]
  match m, hm, h1 with
  | none, _, ⟨r, o, hc, h1⟩ =>
    refine ⟨ds, Fr ++ envR σ δ1, r, o, by rw [hl]; exact hlen _ _ _ hc, hl, s1.front2, hc, fun v H2 g => q r δ1 v H2 h1 (s1.ofc ?_)⟩
    exact Good.dropL (L := outR mp vs o) (g.perm List.perm_middle.symm)
  | some (k, i), hm, ⟨r, d', hc, h1⟩ =>
    obtain ⟨hmp, hbs⟩ := hm k i rfl
    obtain ⟨w, e1, e2⟩ := hb _ hbs
    have e2 : vs[k]? = some w := e2
    refine ⟨ds, Fr ++ envR σ δ1, r, some d', by rw [hl]; exact hlen _ _ _ hc, hl, s1.front2, hc, fun v H2 g => ?_⟩
    have g' : Good X.K H2 (.val w d' :: (.val v r :: (Fr ++ envR σ δ1))) := by
      refine g.perm ?_
      simp only [outR, hmp, e2]
      exact .swap ..
    have s2 : Sim X.K pn σ δ1 (.val w d' :: .val v r :: Fr) H2 := s1.ofc (Fr := .val v r :: Fr) g'
    exact q r _ v H2 h1 (s2.back e1)

/-! ### lists that are changed -/
theorem vals_app {vs ws : List V} {ds es : List D} (h : vs.length = ds.length) : vals (vs ++ ws) (ds ++ es) = vals vs ds ++ vals ws es := by
  unfold vals; exact List.zipWith_append h
theorem vals_take {vs : List V} {ds : List D} {n : Nat} {v : V} {d : D} (h1 : vs[n]? = some v) (h2 : ds[n]? = some d) : (vals vs ds).Perm (.val v d :: vals (vs.eraseIdx n) (ds.eraseIdx n)) := by
  induction n generalizing vs ds with
  | zero =>
    cases vs with
    | nil => simp at h1
    | cons w vs =>
      cases ds with
      | nil => simp at h2
      | cons e ds =>
        obtain rfl : w = v := by simpa using h1
        obtain rfl : e = d := by simpa using h2
        exact .refl _
  | succ n ih =>
    cases vs with
    | nil => simp at h1
    | cons w vs =>
      cases ds with
      | nil => simp at h2
      | cons e ds =>
        have q := ih (vs := vs) (ds := ds) (by simpa using h1) (by simpa using h2)
        exact (q.cons _).trans (.swap ..)
theorem eraseIdx_set_self {α : Type} : ∀ {l : List α} {n : Nat} {x : α}, (l.set n x).eraseIdx n = l.eraseIdx n
  | [], _, _ => rfl
  | _ :: _, 0, _ => rfl
  | a :: l, n + 1, x => by simp only [List.set_cons_succ, List.eraseIdx_cons_succ, eraseIdx_set_self (l := l)]
theorem vals_put {vs : List V} {ds : List D} {n : Nat} {v : V} {d e : D} (h1 : vs[n]? = some v) (h2 : ds[n]? = some d) : (vals vs (ds.set n e)).Perm (.val v e :: vals (vs.eraseIdx n) (ds.eraseIdx n)) := by
  have q := vals_take (vs := vs) (ds := ds.set n e) (n := n) (v := v) (d := e) h1 (by
    have hl := (List.getElem?_eq_some_iff.mp h2).1
    exact List.getElem?_set_self hl)
  rwa [eraseIdx_set_self] at q
/-- w is read off v along π -/
def PathV (K : PySem.W.Frag) (H : Hp) : V → List Int → V → Prop
  | v, [], w => v = w
  | v, j :: π, w => ∃ p xs u, v = .ref p ∧ SqL K H p xs ∧ atI xs j = some u ∧ PathV K H u π w
theorem pathV_snoc {K : PySem.W.Frag} {H : Hp} {c : Int} : ∀ {π : List Int} {v w : V}, PathV K H v (π ++ [c]) w → ∃ u p xs, PathV K H v π u ∧ u = .ref p ∧ SqL K H p xs ∧ atI xs c = some w
  | [], v, w, ⟨p, xs, u, e, s, a, e2⟩ => ⟨v, p, xs, rfl, e, s, by rw [← (show u = w from e2)]; exact a⟩
  | j :: π, v, w, ⟨p, xs, u, e, s, a, q⟩ => by
    obtain ⟨u', p', xs', q', r⟩ := pathV_snoc q
    exact ⟨u', p', xs', ⟨p, xs, u, e, s, a, q'⟩, r⟩
theorem ixN_at {α : Type} {xs : List α} {j : Int} {n : Nat} (h : ixN xs.length j = some n) : atI xs j = xs[n]? := by unfold atI; rw [h]; rfl
theorem foc : ∀ (π : List Int) (d : D) (ds : List D) (v : V) (H : Hp) (L : List Res), lstAt π d = some ds → Good K H (.val v d :: L) →
    ∃ w R, PathV K H v π w ∧ Good K H (.val w (.nd .lst true ds) :: (R ++ L)) ∧ ∀ ds' H' L', Good K H' (.val w (.nd .lst true ds') :: (R ++ L')) → Good K H' (.val v (putAt π d ds') :: L')
  | [], d, ds, v, H, L, h, g => by
    match d, h with
    | .nd .lst true xs, h =>
      obtain rfl : xs = ds := Option.some.inj h
      exact ⟨v, [], rfl, g, fun ds' H' L' g' => g'⟩
  | j :: π, d, ds, v, H, L, h, g => by
    match d, h with
    | .nd .lst true xs, h =>
      obtain ⟨n, e1, h⟩ := Option.bind_eq_some_iff.mp h
      obtain ⟨dj, e2, h⟩ := Option.bind_eq_some_iff.mp h
      obtain ⟨a, vs, rfl, hl, hf, hH, g1⟩ := g.unpack rfl
      have hn : n < vs.length := by rw [hl]; exact (List.getElem?_eq_some_iff.mp e2).1
      obtain ⟨u, e3⟩ : ∃ u, vs[n]? = some u := ⟨vs[n], List.getElem?_eq_getElem hn⟩
      have g2 : Good K H (.val u dj :: (vals (vs.eraseIdx n) (xs.eraseIdx n) ++ (.cell a (ho .lst vs) :: L))) := by
        refine g1.perm ?_
        refine (List.perm_middle (l₁ := vals vs xs) (a := Res.cell a (ho .lst vs)) (l₂ := L)).symm.trans ?_
        exact (vals_take e3 e2).append_right _
      obtain ⟨w, R, pv, g3, h3⟩ := foc π dj ds u H _ h g2
      refine ⟨w, R ++ (vals (vs.eraseIdx n) (xs.eraseIdx n) ++ [.cell a (ho .lst vs)]), ⟨a, vs, u, rfl, .of hH, by rw [ixN_at (by rw [hl]; exact e1)]; exact e3, pv⟩, by simpa [List.append_assoc] using g3, fun ds' H' L' g' => ?_⟩
      have g4 := h3 ds' H' (vals (vs.eraseIdx n) (xs.eraseIdx n) ++ (.cell a (ho .lst vs) :: L')) (by simpa [List.append_assoc] using g')
      have e5 : putAt (j :: π) (.nd .lst true xs) ds' = .nd .lst true (xs.set n (putAt π dj ds')) := by
        simp only [putAt, e1]
        rw [show xs.getD n (.at .non) = dj by rw [List.getD_eq_getElem?_getD, e2]; rfl]
      rw [e5]
      refine Good.pack (k := .lst) rfl (by simpa using hl) trivial (g4.perm ?_)
      refine .trans ?_ (List.perm_middle (l₁ := vals vs (xs.set n (putAt π dj ds'))) (a := Res.cell a (ho .lst vs)) (l₂ := L'))
      exact ((vals_put e3 e2).symm).append_right _
/-- a method that changes the list w -/
def DoesM (X : Cx) (r : V → List V → Hp → VK → Prop) (m : M) : Prop := ∀ (w : V) (ds args : List D) (vs : List V) (H : Hp) (L : List Res) (R : List D → D → Prop) (Q : VK), vs.length = args.length → Good X.K H (.val w (.nd .lst true ds) :: (vals vs args ++ L)) → evM m ds args R →
  (∀ H' x ds' rr, R ds' rr → Good X.K H' (.val x rr :: .val w (.nd .lst true ds') :: L) → Q x H') → r w vs H Q
theorem does_append : DoesM X rAppend .append := fun w ds args vs H L R Q hl g h q => by
  match args, vs, hl, h with
  | [d], [v], _, ⟨hz, h⟩ =>
    obtain ⟨a, xs, rfl, hl, hf, hH, g1⟩ := g.unpack rfl
    refine ⟨a, xs, v, rfl, rfl, hH, by rw [hl]; exact hz, q _ _ _ _ h (Good.mkat ?_)⟩
    refine Good.pack (k := .lst) (vs := xs ++ [v]) rfl (by simp [hl]) trivial ?_
    have g2 := g1.write (o' := ho .lst (xs ++ [v])) trivial
    rw [vals_app hl]
    rw [List.append_assoc]
    exact g2
theorem does_pop : DoesM X rPop .pop := fun w ds args vs H L R Q hl g h q => by
  match args, vs, hl, h with
  | [], [], _, ⟨d, hd, h⟩ =>
    obtain ⟨a, xs, rfl, hl, hf, hH, g1⟩ := g.unpack rfl
    have hn : ds.length - 1 < xs.length := by rw [hl]; exact (List.getElem?_eq_some_iff.mp hd).1
    obtain ⟨u, e3⟩ : ∃ u, xs[ds.length - 1]? = some u := ⟨xs[ds.length - 1], List.getElem?_eq_getElem hn⟩
    refine ⟨a, xs, u, rfl, rfl, hH, by rw [hl]; exact e3, q _ _ _ _ h ?_⟩
    have g2 := g1.write (o' := ho .lst xs.dropLast) trivial
    have e1 : xs.dropLast = xs.eraseIdx (ds.length - 1) := by rw [← hl]; exact List.eraseIdx_length_sub_one.symm
    have e2 : ds.dropLast = ds.eraseIdx (ds.length - 1) := List.eraseIdx_length_sub_one.symm
    have g3 : Good X.K (upd H a (ho .lst xs.dropLast)) (.cell a (ho .lst xs.dropLast) :: (vals xs.dropLast ds.dropLast ++ (.val u d :: L))) := by
      refine g2.perm (List.Perm.cons _ ?_)
      rw [e1, e2]
      exact ((vals_take e3 hd).append_right _).trans List.perm_middle.symm
    exact (Good.pack (k := .lst) rfl (by simp [hl]) trivial g3).perm (.swap ..)
theorem does_popAt : DoesM X rPopAt .popAt := fun w ds args vs H L R Q hl g h q => by
  match args, vs, hl, h with
  | [.at (.int i)], [v], _, ⟨h1, h2, j, d, hj, hd, h⟩ =>
    have g0 := g.perm (.swap ..)
    have ev : v = .int i := Good.at g0
    subst ev
    obtain ⟨a, xs, rfl, hl, hf, hH, g1⟩ := Good.unpack rfl (Good.drop g0)
    have hn : j < xs.length := by rw [hl]; exact (List.getElem?_eq_some_iff.mp hd).1
    obtain ⟨u, e3⟩ : ∃ u, xs[j]? = some u := ⟨xs[j], List.getElem?_eq_getElem hn⟩
    refine ⟨a, xs, i, j, u, rfl, rfl, hH, h1, h2, by rw [hl]; exact hj, e3, q _ _ _ _ h ?_⟩
    have g2 := g1.write (o' := ho .lst (xs.eraseIdx j)) trivial
    have g3 : Good X.K (upd H a (ho .lst (xs.eraseIdx j))) (.cell a (ho .lst (xs.eraseIdx j)) :: (vals (xs.eraseIdx j) (ds.eraseIdx j) ++ (.val u d :: L))) :=
      g2.perm (List.Perm.cons _ (((vals_take e3 hd).append_right _).trans List.perm_middle.symm))
    exact (Good.pack (k := .lst) rfl (by simp [List.length_eraseIdx, hl]) trivial g3).perm (.swap ..)
theorem does_insert : DoesM X (fun x vs H Q => ∃ (l : Addr) (xs : List V) (i : Int) (y : V), x = .ref l ∧ vs = [.int i, y] ∧ H l = some (.lst xs) ∧ xs.length < sizeLine ∧ 0 ≤ i ∧ i < 2 ^ 63 ∧
    Q .non (upd H l (.lst (xs.take i.toNat ++ [y] ++ xs.drop i.toNat)))) .insert := fun w ds args vs H L R Q hl g h q => by
  match args, vs, hl, h with
  | [.at (.int i), d], [v, u], _, ⟨hz, h0, h1, h⟩ =>
    have g0 := g.perm (.swap ..)
    have ev : v = .int i := Good.at g0
    subst ev
    obtain ⟨a, xs, rfl, hl, hf, hH, g1⟩ := Good.unpack rfl (Good.drop g0)
    refine ⟨a, xs, i, u, rfl, rfl, hH, by rw [hl]; exact hz, h0, h1, q _ _ _ _ h (Good.mkat ?_)⟩
    refine Good.pack (k := .lst) (vs := xs.take i.toNat ++ [u] ++ xs.drop i.toNat) rfl (by simp [hl]) trivial ?_
    have g2 := g1.write (o' := ho .lst (xs.take i.toNat ++ [u] ++ xs.drop i.toNat)) trivial
    refine g2.perm (List.Perm.cons _ ?_)
    have e1 : vals (xs.take i.toNat ++ [u] ++ xs.drop i.toNat) (ds.take i.toNat ++ [d] ++ ds.drop i.toNat) = vals (xs.take i.toNat) (ds.take i.toNat) ++ (.val u d :: vals (xs.drop i.toNat) (ds.drop i.toNat)) := by
      unfold vals
      rw [List.append_assoc, List.append_assoc, List.zipWith_append (by simp [hl])]
      rfl
    have e2 : vals xs ds = vals (xs.take i.toNat) (ds.take i.toNat) ++ vals (xs.drop i.toNat) (ds.drop i.toNat) := by
      unfold vals
      rw [← List.zipWith_append (by simp [hl]), List.take_append_drop, List.take_append_drop]
    rw [e1, e2]
    simp only [List.append_assoc, List.cons_append]
    exact List.Perm.append_left _ (List.perm_middle (l₂ := L))
theorem evM_mono (m : M) (args : List D) : ∀ (ds : List D) (k k' : List D → D → Prop), (∀ x y, k x y → k' x y) → evM m ds args k → evM m ds args k' := by
  intro ds k k' hk h
  unfold evM at h ⊢
  split at h <;> first
    | exact ⟨h.1, hk _ _ h.2⟩
    | exact ⟨h.1, h.2.1, h.2.2.1, hk _ _ h.2.2.2⟩
    | (obtain ⟨d, e, h⟩ := h; exact ⟨d, e, hk _ _ h⟩)
    | (obtain ⟨h1, h2, j, d, e1, e2, h⟩ := h; exact ⟨h1, h2, j, d, e1, e2, hk _ _ h⟩)
    | exact h
end
end Z
set_option Elab.async false
set_option linter.all false
set_option maxRecDepth 100000
set_option autoImplicit false
namespace Z
open PySem PySem.Spec PyProof.Rows L2
section
variable {K : PySem.W.Frag} {H : Hp} {L L' : List Res} {v : V} {d : D}
theorem Owns.sub : ∀ {L L' : List Res} {O Z : List Addr}, L'.Sublist L → Owns K H L O Z → ∃ O' Z', Owns K H L' O' Z' ∧ O'.Sublist O ∧ Z'.Sublist Z := by
  intro L L' O Z s
  induction s generalizing O Z with
  | slnil => intro h; exact ⟨_, _, h, .refl _, .refl _⟩
  | cons r s ih =>
    intro h
    cases h with
    | cons h1 h2 =>
      obtain ⟨O', Z', q, so, sz⟩ := ih h2
      exact ⟨O', Z', q, so.trans (List.sublist_append_right _ _), sz.trans (List.sublist_append_right _ _)⟩
  | cons_cons r s ih =>
    intro h
    cases h with
    | cons h1 h2 =>
      obtain ⟨O', Z', q, so, sz⟩ := ih h2
      exact ⟨_, _, .cons h1 q, so.append_left _, sz.append_left _⟩
theorem Good.sub (g : Good K H L) (s : L'.Sublist L) : Good K H L' := by
  obtain ⟨O, Z, h, nd, ap⟩ := g
  obtain ⟨O', Z', q, so, sz⟩ := h.sub s
  exact ⟨O', Z', q, nd.sublist so, fun a ha hz => ap a (so.subset ha) (sz.subset hz)⟩
theorem vals_dt {vs : List V} {ds : List D} (a n : Nat) : vals ((vs.drop a).take n) ((ds.drop a).take n) = ((vals vs ds).drop a).take n := by
  unfold vals; rw [List.drop_zipWith, List.take_zipWith]
theorem Good.cut {vs : List V} {ds : List D} (g : Good K H (vals vs ds ++ L)) (a n : Nat) : Good K H (vals ((vs.drop a).take n) ((ds.drop a).take n) ++ L) := by
  rw [vals_dt]
  exact g.sub (((List.take_sublist _ _).trans (List.drop_sublist _ _)).append_right _)
theorem vals_rev {vs : List V} {ds : List D} (h : vs.length = ds.length) : vals vs.reverse ds.reverse = (vals vs ds).reverse := by
  unfold vals; exact (List.reverse_zipWith h).symm
end
section
variable {X : Cx} {mu : List Nat} {ex a b : Expr} {wp wp' : WP} {we we' : WE} {wt wt' : WPT} {wu wu' : WT} {pos : Pos} {K : PySem.W.Frag} {H : Hp} {L : List Res} {v : V} {d : D}
/-! ### xs.m(..) -/
theorem e_mth {Γ : Nat → Ct} {name : Str} {id : String} {r : V → List V → Hp → VK → Prop} {m : M} {i : Nat} {x : Str} {p apos cpos : Pos} {e : Expr} {es : List Expr} {bs : List (Nat × Nat)} {ws : WEs} (pa : PlainAttrs "list") (slot : Slot "list" name id) (hty : typeOf (.builtin id) = pure (.type "method_descriptor")) (hm : MtR X id r) (hd : DoesM X r m)
    (hN : X.N[i]? = some x) (hv : Vis X.env.scope x) (hdb : (x == ("__debug__" : Str)) = false) (hcd : (x == ("__classdict__" : Str)) = false) (ha : PA X (e :: es) (liftEs X.K mu bs ws))
    (hfew : ((backTo cpos (starEach (e :: es) X.env)).all (fun x => !x.1) && (backToKw cpos (keywordEach [] X.env)).all (fun x => x.1.isSome)
      && decide ((e :: es).length + ([] : List Keyword).length + (if ([] : List Keyword).isEmpty then 0 else 1) < 30)) = true)
    (hline : (apos.endLine == cpos.line) = true) (hs : (e :: es).all noStar = true) :
    PE X (.Call (.Attribute (.Name x p) name apos) (e :: es) [] cpos) (liftE X.K mu fun δ Q => (∃ o ys, δ[i]? = some (some (.nd .lst o ys))) ∧ ws δ fun ds δ1 => ∃ xs, δ1[i]? = some (some (.nd .lst true xs)) ∧ evM m xs ds fun xs' r => Q r (δ1.set i (some (.nd .lst true xs')))) := by
  simp only [List.all_cons, Bool.and_eq_true] at hs
  refine PEmono (pe_bm pa slot hty hm (pe_var hN hv hdb hcd) ha (noLc_base fun _ _ _ z => by cases z) hfew hline (noStar_star hs.1) (noStar_any hs.2)) fun σ H Q ⟨pn, δ, Fr, R, hp, s, ⟨⟨o, ys, e0⟩, h⟩, q⟩ => ?_
  obtain ⟨w, e1, i1⟩ := s.get e0
  obtain ⟨l, us, rfl, hl, rd, _⟩ := i1.nd
  refine ⟨_, e1, .inl ⟨rfl, us, rd⟩, pn, δ, Fr, _, hp, s, h, fun ds δ1 vs H1 ⟨xs, e2, h2⟩ hl hb s1 => ?_⟩
  obtain ⟨w', e3, s2⟩ := s1.out e2
  obtain rfl : w' = .ref l := by rw [e1] at e3; exact (Option.some.inj (Option.some.inj e3)).symm
  refine hd _ xs ds vs H1 (Fr ++ envR σ (δ1.set i none)) _ Q hl (by simpa using Sim.front2 (A := _ :: vals vs ds) s2) h2 fun H2 x ds' rr hr g => ?_
  have s3 : Sim X.K pn σ (δ1.set i none) (.val (.ref l) (.nd .lst true ds') :: .val x rr :: Fr) H2 := s2.ofc (Fr := .val x rr :: Fr) (g.perm (.swap ..))
  have s4 := s3.back e3
  rw [List.set_set] at s4
  exact q rr _ x H2 hr s4
theorem e_mth0 {Γ : Nat → Ct} {name : Str} {id : String} {r : V → List V → Hp → VK → Prop} {m : M} {i : Nat} {x : Str} {p apos cpos : Pos} (pa : PlainAttrs "list") (slot : Slot "list" name id) (hty : typeOf (.builtin id) = pure (.type "method_descriptor")) (hm : MtR X id r) (hd : DoesM X r m)
    (hN : X.N[i]? = some x) (hv : Vis X.env.scope x) (hdb : (x == ("__debug__" : Str)) = false) (hcd : (x == ("__classdict__" : Str)) = false) (hline : (apos.endLine == cpos.line) = true) :
    PE X (.Call (.Attribute (.Name x p) name apos) [] [] cpos) (liftE X.K mu fun δ Q => (∃ o ys, δ[i]? = some (some (.nd .lst o ys))) ∧ ∃ xs, δ[i]? = some (some (.nd .lst true xs)) ∧ evM m xs [] fun xs' r => Q r (δ.set i (some (.nd .lst true xs')))) := by
  refine PEmono (pe_bm0 pa slot hty hm (pe_var hN hv hdb hcd) (noLc_base fun _ _ _ z => by cases z) hline) fun σ H Q ⟨pn, δ, Fr, R, hp, s, ⟨_, xs, e2, h2⟩, q⟩ => ?_
  obtain ⟨w, e1, i1⟩ := s.get e2
  obtain ⟨l, us, rfl, hl, rd, _⟩ := i1.nd
  refine ⟨_, e1, .inl ⟨rfl, us, rd⟩, ?_⟩
  obtain ⟨w', e3, s2⟩ := s.out e2
  obtain rfl : w' = .ref l := by rw [e1] at e3; exact (Option.some.inj (Option.some.inj e3)).symm
  refine hd _ xs [] [] H (Fr ++ envR σ (δ.set i none)) _ Q rfl (show Good X.K H (_ :: (Fr ++ envR σ (δ.set i none))) from Sim.front2 (A := [_]) s2) h2 fun H2 x ds' rr hr g => ?_
  have s3 : Sim X.K pn σ (δ.set i none) (.val (.ref l) (.nd .lst true ds') :: .val x rr :: Fr) H2 := s2.ofc (Fr := .val x rr :: Fr) (g.perm (.swap ..))
  have s4 := s3.back e3
  rw [List.set_set] at s4
  exact q rr _ x H2 hr s4
/-! ### + of lists, of tuples -/
theorem e_cat (ha : PE X a (liftE X.K mu we)) (hb : PE X b (liftE X.K mu we')) : PE X (.BinOp a .Add b pos) (liftE X.K mu fun δ Q => we δ fun x δ1 => we' δ1 fun y δ2 => catW x y δ2 Q) :=
  PEmono (pe_op (op_cat.or op_catA) ha hb) fun σ H Q ⟨pn, δ, Fr, R, hp, s, h, q⟩ => ⟨pn, δ, Fr, _, hp, s, h, fun x δ1 v H1 hr s1 => ⟨pn, δ1, _, _, hp, s1, hr, fun y δ2 u H2 hr2 s2 => by
    match x, y, hr2 with
    | .nd .lst true xs, .nd .lst true ys, ⟨hz, h⟩ =>
      obtain ⟨b, us, rfl, hl2, _, hH2, g2⟩ := Good.unpack (L := .val v (.nd .lst true xs) :: (Fr ++ envR σ δ2)) rfl (Sim.front2 (A := [_, _]) s2)
      obtain ⟨l, vs, rfl, hl1, _, hH1, g1⟩ := Good.unpack (L := .cell b (ho .lst us) :: (vals us ys ++ (Fr ++ envR σ δ2))) rfl (g2.perm (by
        refine .trans ?_ (List.Perm.swap _ _ _)
        exact List.Perm.cons _ List.perm_middle))
      refine .inl ⟨l, b, vs, us, rfl, rfl, hH1, hH2, by rw [hl1, hl2]; exact hz, fun p np => q _ δ2 _ _ h (s2.ofc ?_)⟩
      refine Good.pack (k := .lst) (vs := vs ++ us) rfl (by simp [hl1, hl2]) trivial ?_
      have g3 := Good.alloc (o := .lst (vs ++ us)) g1 np trivial
      rw [vals_app hl1]
      refine g3.sub (List.Sublist.cons_cons _ (List.Sublist.cons _ ?_))
      rw [List.append_assoc]
      exact (List.Sublist.refl _).append (List.Sublist.cons _ (List.Sublist.refl _))
    | .nd .tup o xs, .nd .tup o' ys, ⟨hz, h⟩ =>
      obtain ⟨b, us, rfl, hl2, hH2, g2⟩ := Good.untup (L := .val v (.nd .tup o xs) :: (Fr ++ envR σ δ2)) (Sim.front2 (A := [_, _]) s2)
      obtain ⟨l, vs, rfl, hl1, hH1, g1⟩ := Good.untup (L := vals us ys ++ (Fr ++ envR σ δ2)) (g2.perm List.perm_middle)
      have g4 : Good X.K H2 (vals (vs ++ us) (xs ++ ys) ++ (Fr ++ envR σ δ2)) := by rw [vals_app hl1, List.append_assoc]; exact g1
      refine .inr ⟨l, b, vs, us, rfl, rfl, .inl hH1.rd, .inl hH2.rd, by rw [hl1, hl2]; exact hz, fun e => ?_, fun hne e => ?_, fun hne hne2 p np => ?_⟩
      · subst e
        have e' : xs = [] := List.eq_nil_of_length_eq_zero hl1.symm
        subst e'
        exact q _ δ2 _ _ h (s2.ofc (Good.mktup hl2 hH2 g4))
      · subst e
        have e' : ys = [] := List.eq_nil_of_length_eq_zero hl2.symm
        subst e'
        have hx : ¬ xs.length = 0 := fun z => hne (List.eq_nil_of_length_eq_zero (hl1.trans z))
        rw [if_neg hx, if_pos (show ([] : List D).length = 0 from rfl)] at h
        exact q _ δ2 _ _ h (s2.ofc (Good.mktup (vs := vs) (by simp [hl1]) hH1 (by simpa using g4)))
      · have hx : ¬ xs.length = 0 := fun z => hne (List.eq_nil_of_length_eq_zero (hl1.trans z))
        have hy : ¬ ys.length = 0 := fun z => hne2 (List.eq_nil_of_length_eq_zero (hl2.trans z))
        rw [if_neg hx, if_neg hy] at h
        exact q _ δ2 _ _ h (s2.ofc (Good.mktup (o := false) (vs := vs ++ us) (by simp [hl1, hl2]) upd_same (g4.same (same_new np))))⟩⟩
/-! ### slices -/
theorem o_none : PO X none (liftO X.K mu fun δ Q => Q none δ) := POmono po_none fun σ H Q ⟨pn, δ, Fr, R, hp, s, h, q⟩ => q _ δ H h s
theorem o_some (ha : PE X a (liftE X.K mu we)) : PO X (some a) (liftO X.K mu fun δ Q => we δ fun d δ1 => ∃ i, d = .at (.int i) ∧ Q (some i) δ1) :=
  POmono (po_some ha) fun σ H Q ⟨pn, δ, Fr, R, hp, s, h, q⟩ => ⟨pn, δ, Fr, _, hp, s, h, fun d δ1 v H1 ⟨i, e, hr⟩ s1 => by
    subst e
    exact ⟨i, (s1.seen List.mem_cons_self).at, q _ δ1 H1 hr s1.drop⟩⟩
end
end Z
set_option Elab.async false
set_option linter.all false
set_option maxRecDepth 100000
set_option autoImplicit false
namespace Z
open PySem PySem.Spec PyProof.Rows L2
section
variable {K : PySem.W.Frag} {pn : List (Nat × V)} {σ : L2.St} {δ : Env} {Fr Fr' : List Res} {H H' : Hp} {v : V} {d : D}
theorem Sim.sub (s : Sim K pn σ δ Fr H) (h : Fr'.Sublist Fr) : Sim K pn σ δ Fr' H := ⟨s.len, s.ok, s.pin, s.good.sub (h.append_left _)⟩
theorem Sim.holdL {k : Kd} {o : Bool} {ds : List D} (s : Sim K pn σ δ Fr H) (i : In K H (envR σ δ ++ Fr) v (.nd k o ds)) (hf : frozL ds = true) : ∃ a vs, v = .ref a ∧ vs.length = ds.length ∧ RdK K H a k vs ∧ Sim K pn σ δ (vals vs ds ++ Fr) H := by
  obtain ⟨a, vs, e, hl, rd, g⟩ := i.holdL hf
  refine ⟨a, vs, e, hl, rd, s.len, s.ok, s.pin, g.perm ?_⟩
  rw [← List.append_assoc, ← List.append_assoc]
  exact List.perm_append_comm.append_right _
theorem Sim.holdT {o : Bool} {ds : List D} (s : Sim K pn σ δ Fr H) (i : In K H (envR σ δ ++ Fr) v (.nd .tup o ds)) (hf : frozL ds = true) : ∃ a vs, v = .ref a ∧ vs.length = ds.length ∧ TupAt o H a vs ∧ Sim K pn σ δ (vals vs ds ++ Fr) H := by
  obtain ⟨a, vs, e, hl, rd, g⟩ := i.holdT hf
  refine ⟨a, vs, e, hl, rd, s.len, s.ok, s.pin, g.perm ?_⟩
  rw [← List.append_assoc, ← List.append_assoc]
  exact List.perm_append_comm.append_right _
theorem cons_sub {r : Res} {A L : List Res} : (A ++ L).Sublist (A ++ r :: L) := (List.sublist_cons_self _ _).append_left _
/-- a new list, a new tuple of what is held in front -/
theorem Sim.newL {vs : List V} {ds : List D} {p : Addr} (s : Sim K pn σ δ (vals vs ds ++ Fr) H) (hl : vs.length = ds.length) (np : H p = none) : Sim K pn σ δ (.val (.ref p) (.nd .lst true ds) :: Fr) (upd H p (.lst vs)) :=
  s.ofc (Good.pack (k := .lst) rfl hl trivial (s.front2.alloc np trivial))
theorem Sim.newT {vs : List V} {ds : List D} {p : Addr} (s : Sim K pn σ δ (vals vs ds ++ Fr) H) (hl : vs.length = ds.length) (np : H p = none) : Sim K pn σ δ (.val (.ref p) (.nd .tup false ds) :: Fr) (upd H p (.tup vs)) :=
  s.ofc (Good.mktup hl upd_same (s.front2.same (same_new np)))
theorem Sim.oldT {vs : List V} {ds : List D} {p : Addr} {o : Bool} (s : Sim K pn σ δ (vals vs ds ++ Fr) H) (hl : vs.length = ds.length) (np : TupAt o H p vs) : Sim K pn σ δ (.val (.ref p) (.nd .tup o ds) :: Fr) H :=
  s.ofc (Good.mktup hl np s.front2)
theorem Sim.mkat {w : V} (s : Sim K pn σ δ Fr H) : Sim K pn σ δ (.val w (.at w) :: Fr) H := s.of s.front.mkat
end
section
variable {X : Cx} {mu : List Nat} {ex a b : Expr} {wp wp' : WP} {we we' : WE} {wt wt' : WPT} {wu wu' : WT} {pos : Pos} {K : PySem.W.Frag} {H : Hp} {L : List Res} {v : V} {d : D}
theorem cutV_cut {vs : List V} {ds : List D} (hl : vs.length = ds.length) {l h : Option Int} : cutV vs l h = (vs.drop (HT.sIx ds.length 0 l)).take (HT.sIx ds.length ds.length h - HT.sIx ds.length 0 l) := by unfold cutV; rw [hl]
theorem Sim.cut {K : PySem.W.Frag} {pn : List (Nat × V)} {σ : L2.St} {δ : Env} {Fr : List Res} {H : Hp} {vs : List V} {ds : List D} (s : Sim K pn σ δ (vals vs ds ++ Fr) H) (a n : Nat) : Sim K pn σ δ (vals ((vs.drop a).take n) ((ds.drop a).take n) ++ Fr) H := by
  rw [vals_dt]
  exact s.sub (((List.take_sublist _ _).trans (List.drop_sublist _ _)).append_right _)
theorem e_slc {lo hi : Option Expr} {wl wh : WO} {p2 : Pos} (ha : PE X a (liftE X.K mu we)) (hl : PO X lo (liftO X.K mu wl)) (hh : PO X hi (liftO X.K mu wh)) :
    PE X (.Subscript a (.Slice lo hi none p2) pos) (liftE X.K mu fun δ Q => we δ fun x δ1 => wl δ1 fun l δ2 => wh δ2 fun h δ3 => slcW x l h δ3 Q) :=
  PEmono (pe_slice (sl_list.or (sl_tupA.or sl_str)) ha hl hh) fun σ H Q ⟨pn, δ, Fr, R, hp, s, h, q⟩ => ⟨pn, δ, Fr, _, hp, s, h, fun x δ1 v H1 hr s1 => ⟨pn, δ1, _, _, hp, s1, hr, fun l δ2 H2 hr2 s2 => ⟨pn, δ2, _, _, hp, s2, hr2, fun u δ3 H3 hr3 s3 => by
    match x, hr3 with
    | .nd .tup o xs, ⟨hf, h⟩ =>
      obtain ⟨a, vs, rfl, hl, rd, s4⟩ := s3.holdT (s3.seen List.mem_cons_self) hf
      have s5 := s4.sub cons_sub
      refine .inr (.inl ⟨a, vs, rfl, .inl rd.rd, fun hw => ?_, fun hw p np => ?_⟩)
      · rw [hl] at hw
        rw [decide_eq_true hw, Bool.and_true, hw.1, hw.2, List.drop_zero, Nat.sub_zero, List.take_length] at h
        exact q _ δ3 _ _ h (s5.oldT hl rd)
      · rw [hl] at hw
        rw [decide_eq_false hw, Bool.and_false] at h
        rw [cutV_cut hl]
        exact q _ δ3 _ _ h ((s5.cut _ _).newT (by simp [hl]) np)
    | .nd .lst o xs, ⟨hf, h⟩ =>
      obtain ⟨a, vs, rfl, hl, rd, s4⟩ := s3.holdL (s3.seen List.mem_cons_self) hf
      have s5 := s4.sub cons_sub
      refine .inl ⟨a, vs, rfl, rd, fun p np => ?_⟩
      rw [cutV_cut hl]
      exact q _ δ3 _ _ h ((s5.cut _ _).newL (by simp [hl]) np)
    | .at (.str x), ⟨hz, h⟩ => exact .inr (.inr ⟨x, (s3.seen List.mem_cons_self).at, hz, q _ δ3 _ _ h s3.drop.mkat⟩)⟩⟩⟩
/-! ### tuple(x), list(x) -/
theorem Good.sim0 {K : PySem.W.Frag} {H : Hp} {L : List Res} (g : Good K H L) : Sim K [] [] [] L H := ⟨rfl, fun i d h => by simp at h, fun p h => by simp at h, g⟩
theorem does_tupleOf : DoesA X (fun x H Q => (∃ p ys, x = .ref p ∧ ((SqL X.K H p ys ∧ ∀ l, H l = none → Q (.ref l) (upd H l (.tup ys))) ∨ (SqT X.K H p ys ∧ Q (.ref p) H)))) (evA1 .tupleOf) := fun L H v d R Q i h q => by
  have s : Sim X.K [] [] [] L H := i.good.sim0
  match d, h with
  | .nd .tup o ds, ⟨hf, h⟩ =>
    obtain ⟨a, vs, rfl, hl, rd, s4⟩ := s.holdT i hf
    exact ⟨a, vs, rfl, .inr ⟨.inl rd.rd, q _ _ _ h (s4.oldT hl rd).good⟩⟩
  | .nd .lst o ds, ⟨hf, h⟩ =>
    obtain ⟨a, vs, rfl, hl, rd, s4⟩ := s.holdL i hf
    exact ⟨a, vs, rfl, .inl ⟨rd, fun l nl => q _ _ _ h (s4.newT hl nl).good⟩⟩
theorem does_listOf : DoesA X (fun x H Q => ∃ p ys, x = .ref p ∧ (SqL X.K H p ys ∨ SqT X.K H p ys) ∧ ∀ l, H l = none → Q (.ref l) (upd H l (.lst ys))) (evA1 .listOf) := fun L H v d R Q i h q => by
  have s : Sim X.K [] [] [] L H := i.good.sim0
  match d, h with
  | .nd .tup o ds, ⟨hf, h⟩ =>
    obtain ⟨a, vs, rfl, hl, rd, s4⟩ := s.holdL i hf
    exact ⟨a, vs, rfl, .inr (.inl rd), fun l nl => q _ _ _ h (s4.newL hl nl).good⟩
  | .nd .lst o ds, ⟨hf, h⟩ =>
    obtain ⟨a, vs, rfl, hl, rd, s4⟩ := s.holdL i hf
    exact ⟨a, vs, rfl, .inl (rd), fun l nl => q _ _ _ h (s4.newL hl nl).good⟩
/-! ### dicts -/
theorem look_ok {κ : Type} [DecidableEq κ] {K : PySem.W.Frag} {H : Hp} {L : List Res} : ∀ {ks : List κ} {ds : List D} {vs : List V} {k : κ}, vs.length = ds.length → (∀ (i : Nat) (d : D), ds[i]? = some d → ∃ w, vs[i]? = some w ∧ In K H L w d) →
    (lookK (ks.zip ds) k = none ∧ valV (ks.zip vs) k = none) ∨ ∃ r w, lookK (ks.zip ds) k = some r ∧ valV (ks.zip vs) k = some w ∧ In K H L w r
  | [], ds, vs, k, hl, h => .inl ⟨by simp [lookK], by simp [valV]⟩
  | _ :: _, [], vs, k, hl, h => by
    have : vs = [] := List.eq_nil_of_length_eq_zero hl
    subst this
    exact .inl ⟨by simp [lookK], by simp [valV]⟩
  | _ :: _, _ :: _, [], k, hl, h => by simp at hl
  | k' :: ks, d :: ds, v :: vs, k, hl, h => by
    by_cases e : k' = k
    · subst e
      obtain ⟨w, e1, i⟩ := h 0 d rfl
      obtain rfl : v = w := by simpa using e1
      exact .inr ⟨d, v, by simp [lookK], by simp [valV], i⟩
    · have ih := look_ok (ks := ks) (ds := ds) (vs := vs) (k := k) (by simpa using hl) fun i d' q => by simpa using h (i + 1) d' (by simpa using q)
      rcases ih with ⟨e1, e2⟩ | ⟨r, w, e1, e2, i⟩
      · exact .inl ⟨by simpa [lookK, List.find?_cons, e] using e1, by simpa [valV, List.find?_cons, e] using e2⟩
      · exact .inr ⟨r, w, by simpa [lookK, List.find?_cons, e] using e1, by simpa [valV, List.find?_cons, e] using e2, i⟩
theorem Dkey_ok {K : PySem.W.Frag} {H : Hp} {L : List Res} {v : V} {d : D} {k : Key} (h : Dkey d = some k) (i : In K H L v d) : v = kV k := by
  match d, h with
  | .at (.int i'), h => cases h; exact i.at
  | .at (.str i'), h => cases h; exact i.at
theorem DkeyL_ok {K : PySem.W.Frag} {H : Hp} {L : List Res} : ∀ {ds : List D} {vs : List V} {k : List Key}, DkeyL ds = some k → vs.length = ds.length → (∀ (i : Nat) (d : D), ds[i]? = some d → ∃ w, vs[i]? = some w ∧ In K H L w d) → vs = k.map kV
  | [], [], k, h, _, _ => by cases h; rfl
  | d :: ds, v :: vs, k, h, hl, q => by
    simp only [DkeyL, Option.bind_eq_some_iff, Option.map_eq_some_iff] at h
    obtain ⟨k1, e1, k2, e2, rfl⟩ := h
    obtain ⟨w, e3, i⟩ := q 0 d rfl
    obtain rfl : v = w := by simpa using e3
    rw [Dkey_ok e1 i, DkeyL_ok (vs := vs) e2 (by simpa using hl) fun i d' q' => by simpa using q (i + 1) d' (by simpa using q')]
    rfl
/-- what a seen dict holds at a seen key -/
theorem dget_ok {K : PySem.W.Frag} {H : Hp} {L : List Res} {v y : V} {d e : D} {R : Option D → Prop} (i : In K H L v d) (j : In K H L y e) (h : dget d e R) :
    ∃ a o r, v = .ref a ∧ IsD H a ∧ DGet H a y o ∧ R r ∧ ((o = none ∧ r = none) ∨ ∃ w x, o = some w ∧ r = some x ∧ In K H L w x) := by
  match d, h with
  | .nd c o ds, h =>
    obtain ⟨a, vs, rfl, hl, rd, hi⟩ := i.nd
    have rd' : RdK K H a c.base vs := by cases c <;> exact rd
    have h : dgetK c.base ds e R := h
    generalize c.base = c' at h rd'
    match c', h with
    | .dK ks, ⟨k, e1, h⟩ =>
      have ey := Dkey_ok e1 j
      subst ey
      refine ⟨a, _, _, rfl, .inl ⟨_, rd'⟩, .inl ⟨_, k, rd', rfl, rfl⟩, h, ?_⟩
      rcases look_ok (ks := ks) (k := k) hl hi with ⟨e1, e2⟩ | ⟨r, w, e1, e2, i⟩
      · exact .inl ⟨e2, e1⟩
      · exact .inr ⟨w, r, e2, e1, i⟩
    | .dT ks, h =>
      match e, h with
      | .nd .tup false xs, ⟨k, e1, h⟩ =>
        obtain ⟨b, ws, rfl, hl2, rd2, hi2⟩ := j.tupAt
        have ey := DkeyL_ok e1 hl2 hi2
        subst ey
        refine ⟨a, _, _, rfl, .inr ⟨_, rd'⟩, .inr ⟨_, k, b, rd', rfl, rd2, rfl⟩, h, ?_⟩
        rcases look_ok (ks := ks) (k := k) hl hi with ⟨e1, e2⟩ | ⟨r, w, e1, e2, i⟩
        · exact .inl ⟨e2, e1⟩
        · exact .inr ⟨w, r, e2, e1, i⟩
theorem p_dget (hu : X.A.units + 1 < cLine) (hs : NoSl b) (ha : PE X a (liftP X.K mu wp)) (hb : PE X b (liftP X.K mu wp')) :
    PE X (.Subscript a b pos) (liftP X.K mu fun δ k => wp δ fun dd => wp' δ fun y => dget dd y fun o => ∃ r, o = some r ∧ k r) :=
  PEmono (pe_dget hu ha hb hs) fun σ H Q ⟨pn, δ, Fr, R, hp, s, h, q⟩ => ⟨pn, δ, Fr, _, hp, s, h, fun d v hr i => ⟨pn, δ, Fr, _, hp, s, hr, fun e y hr2 j => by
    obtain ⟨a, o, r, rfl, _, g, ⟨r', rfl, hk⟩, w⟩ := dget_ok i j hr2
    rcases w with ⟨_, e⟩ | ⟨w, x, rfl, e, i'⟩
    · cases e
    · cases e
      exact ⟨a, w, rfl, g, q _ _ hk i'⟩⟩⟩
theorem p_din (hu : X.A.units + 1 < cLine) (hm : behindInMarks .In b = false) (ha : PE X a (liftP X.K mu wp)) (hb : PE X b (liftP X.K mu wp')) :
    PE X (.Compare a [.In] [b] pos) (liftP X.K mu fun δ k => wp δ fun y => wp' δ fun dd => dget dd y fun o => k (.at (.bl (if false = true then !o.isSome else o.isSome)))) :=
  PEmono (pe_cmp (pc_din hu ha hb) hm) fun σ H Q ⟨pn, δ, Fr, R, hp, s, h, q⟩ => ⟨pn, δ, Fr, _, hp, s, h, fun e y hr j => ⟨pn, δ, Fr, _, hp, s, hr, fun d v hr2 i => by
    obtain ⟨a, o, r, rfl, _, g, hk, w⟩ := dget_ok i j hr2
    have e : o.isSome = r.isSome := by rcases w with ⟨rfl, rfl⟩ | ⟨w, x, rfl, rfl, _⟩ <;> rfl
    refine ⟨a, o, rfl, g, ?_⟩
    rw [e]
    exact q _ _ hk i.mkat⟩⟩
theorem p_dnotin (hu : X.A.units + 1 < cLine) (hm : behindInMarks .NotIn b = false) (ha : PE X a (liftP X.K mu wp)) (hb : PE X b (liftP X.K mu wp')) :
    PE X (.Compare a [.NotIn] [b] pos) (liftP X.K mu fun δ k => wp δ fun y => wp' δ fun dd => dget dd y fun o => k (.at (.bl (if true = true then !o.isSome else o.isSome)))) :=
  PEmono (pe_cmp (pc_dnotin hu ha hb) hm) fun σ H Q ⟨pn, δ, Fr, R, hp, s, h, q⟩ => ⟨pn, δ, Fr, _, hp, s, h, fun e y hr j => ⟨pn, δ, Fr, _, hp, s, hr, fun d v hr2 i => by
    obtain ⟨a, o, r, rfl, _, g, hk, w⟩ := dget_ok i j hr2
    have e : o.isSome = r.isSome := by rcases w with ⟨rfl, rfl⟩ | ⟨w, x, rfl, rfl, _⟩ <;> rfl
    refine ⟨a, o, rfl, g, ?_⟩
    rw [e]
    exact q _ _ hk i.mkat⟩⟩
theorem pt_din (hu : X.A.units + 1 < cLine) (hm : behindInMarks .In b = false) (ha : PE X a (liftP X.K mu wp)) (hb : PE X b (liftP X.K mu wp')) :
    PT X (.Compare a [.In] [b] pos) (liftPT X.K mu fun δ k => wp δ fun y => wp' δ fun dd => dget dd y fun o => k (if false = true then !o.isSome else o.isSome)) :=
  PTmono (pt_cmp (pc_din hu ha hb) hm) fun σ H Q ⟨pn, δ, Fr, R, hp, s, h, q⟩ => ⟨pn, δ, Fr, _, hp, s, h, fun e y hr j => ⟨pn, δ, Fr, _, hp, s, hr, fun d v hr2 i => by
    obtain ⟨a, o, r, rfl, _, g, hk, w⟩ := dget_ok i j hr2
    have e : o.isSome = r.isSome := by rcases w with ⟨rfl, rfl⟩ | ⟨w, x, rfl, rfl, _⟩ <;> rfl
    refine ⟨a, o, rfl, g, _, rfl, ?_⟩
    rw [e]
    exact q _ hk⟩⟩
theorem pt_dnotin (hu : X.A.units + 1 < cLine) (hm : behindInMarks .NotIn b = false) (ha : PE X a (liftP X.K mu wp)) (hb : PE X b (liftP X.K mu wp')) :
    PT X (.Compare a [.NotIn] [b] pos) (liftPT X.K mu fun δ k => wp δ fun y => wp' δ fun dd => dget dd y fun o => k (if true = true then !o.isSome else o.isSome)) :=
  PTmono (pt_cmp (pc_dnotin hu ha hb) hm) fun σ H Q ⟨pn, δ, Fr, R, hp, s, h, q⟩ => ⟨pn, δ, Fr, _, hp, s, h, fun e y hr j => ⟨pn, δ, Fr, _, hp, s, hr, fun d v hr2 i => by
    obtain ⟨a, o, r, rfl, _, g, hk, w⟩ := dget_ok i j hr2
    have e : o.isSome = r.isSome := by rcases w with ⟨rfl, rfl⟩ | ⟨w, x, rfl, rfl, _⟩ <;> rfl
    refine ⟨a, o, rfl, g, _, rfl, ?_⟩
    rw [e]
    exact q _ hk⟩⟩
theorem e_dgetD {i : Nat} {x : Str} {p apos cpos : Pos} (hu : X.A.units + 1 < cLine) (hN : X.N[i]? = some x) (hv : Vis X.env.scope x) (hdb : (x == ("__debug__" : Str)) = false) (hcd : (x == ("__classdict__" : Str)) = false) (m : M2 X (.Name x p) "get" apos a b cpos)
    (ha : PE X a (liftE X.K mu we)) (hb : PE X b (liftE X.K mu we')) :
    PE X (.Call (.Attribute (.Name x p) "get" apos) [a, b] [] cpos) (liftE X.K mu fun δ Q => (∃ c o ds, δ[i]? = some (some (.nd c o ds)) ∧ c.isDict = true) ∧ we δ fun y δ1 => we' δ1 fun z δ2 => ∃ dd, δ2[i]? = some (some dd) ∧ dget dd y fun o => match o with
    | some r => r.froz = true ∧ Q r δ2
    | none => Q z δ2) :=
  PEmono (pe_dget2 hu (pe_var hN hv hdb hcd) ha hb m) fun σ H Q ⟨pn, δ, Fr, R, hp, s, ⟨⟨c, o, ds, e0, hc⟩, h⟩, q⟩ => by
    obtain ⟨w, e1, i1⟩ := s.get e0
    obtain ⟨l, us, rfl, hl, rd, _⟩ := i1.nd
    refine ⟨_, e1, l, rfl, ?_, pn, δ, Fr, _, hp, s, h, fun y δ1 v H1 hr s1 => ⟨pn, δ1, _, _, hp, s1, hr, fun z δ2 u H2 ⟨dd, e2, hr2⟩ s2 => ?_⟩⟩
    · cases c with
      | dK ks => exact .inl ⟨_, rd⟩
      | dT ks => exact .inr ⟨_, rd⟩
      | lkK o ks => exact .inl ⟨_, rd⟩
      | lkT o ks => exact .inr ⟨_, rd⟩
      | tup => simp [Kd.isDict] at hc
      | lst => simp [Kd.isDict] at hc
    · obtain ⟨w', e3, i3⟩ := s2.get e2
      obtain rfl : w' = .ref l := by rw [e1] at e3; exact (Option.some.inj (Option.some.inj e3)).symm
      obtain ⟨a', o', r, ea, _, g, hk, ww⟩ := dget_ok i3 (s2.seen (v := v) (d := y) (by simp)) hr2
      cases ea
      refine ⟨o', g, ?_⟩
      rcases ww with ⟨rfl, rfl⟩ | ⟨w2, x2, rfl, rfl, i'⟩
      · exact q z δ2 u H2 hk (s2.sub (List.Sublist.cons_cons _ (List.sublist_cons_self _ _)))
      · exact q x2 δ2 w2 H2 hk.2 ((s2.hold i' hk.1).under (L := [_, _]))
/-! ### stores: d[k] = v, xs[i] = v -/
theorem putK_zip {κ : Type} [DecidableEq κ] : ∀ {ks : List κ} {vs : List V} {k : κ} {v : V}, ks.length = vs.length → ks.Nodup → putK (ks.zip vs) k v = (putKs ks vs k v).1.zip (putKs ks vs k v).2 := by
  intro ks vs k v hl nd
  have key : ∀ (ks : List κ) (vs : List V), ks.length = vs.length → k ∉ ks → ((ks.zip vs).map fun kv => if kv.1 = k then (kv.1, v) else kv) = ks.zip vs := by
    intro ks
    induction ks with
    | nil => intro vs _ _; rfl
    | cons k' ks ih =>
      intro vs hl hn
      cases vs with
      | nil => simp at hl
      | cons v' vs =>
        simp only [List.mem_cons, not_or] at hn
        rw [List.zip_cons_cons, List.map_cons, ih vs (by simpa using hl) hn.2, if_neg (fun e => hn.1 e.symm)]
  have key2 : ∀ (ks : List κ) (vs : List V), ks.length = vs.length → ks.Nodup → (((ks.zip vs).any fun kv => decide (kv.1 = k)) = true → ((ks.zip vs).map fun kv => if kv.1 = k then (kv.1, v) else kv) = (putKs ks vs k v).1.zip (putKs ks vs k v).2) ∧
      (((ks.zip vs).any fun kv => decide (kv.1 = k)) = false → ks.zip vs ++ [(k, v)] = (putKs ks vs k v).1.zip (putKs ks vs k v).2) := by
    intro ks
    induction ks with
    | nil =>
      intro vs hl _
      have : vs = [] := List.eq_nil_of_length_eq_zero hl.symm
      subst this
      exact ⟨fun h => by simp at h, fun _ => rfl⟩
    | cons k' ks ih =>
      intro vs hl nd
      cases vs with
      | nil => simp at hl
      | cons v' vs =>
        have hl' : ks.length = vs.length := by simpa using hl
        obtain ⟨n1, n2⟩ := List.nodup_cons.mp nd
        obtain ⟨i1, i2⟩ := ih vs hl' n2
        by_cases e : k' = k
        · subst e
          refine ⟨fun _ => ?_, fun h => by simp at h⟩
          rw [List.zip_cons_cons, List.map_cons, key ks vs hl' n1]
          simp [putKs]
        · refine ⟨fun h => ?_, fun h => ?_⟩
          · rw [List.zip_cons_cons, List.map_cons, i1 (by simpa [e] using h)]
            simp [putKs, e]
          · rw [List.zip_cons_cons, List.cons_append, i2 (by simpa [e] using h)]
            simp [putKs, e]
  unfold putK
  cases h : (ks.zip vs).any fun kv => decide (kv.1 = k) with
  | true => simpa [h] using (key2 ks vs hl nd).1 h
  | false => simpa [h] using (key2 ks vs hl nd).2 h
theorem putKs_len {κ α : Type} [DecidableEq κ] : ∀ {ks : List κ} {vs : List α} {k : κ} {v : α}, ks.length = vs.length → (putKs ks vs k v).1.length = (putKs ks vs k v).2.length
  | [], [], _, _, _ => rfl
  | k' :: ks, v' :: vs, k, v, hl => by
    unfold putKs
    by_cases e : k' = k
    · rw [if_pos e]; simpa using hl
    · rw [if_neg e]; simpa using putKs_len (ks := ks) (vs := vs) (by simpa using hl)
theorem putKs_mem {κ α : Type} [DecidableEq κ] : ∀ {ks : List κ} {vs : List α} {k x : κ} {v : α}, ks.length = vs.length → x ∈ (putKs ks vs k v).1 → x ∈ ks ∨ x = k
  | [], [], _, _, _, _, h => by simpa [putKs] using h
  | k' :: ks, v' :: vs, k, x, v, hl, h => by
    unfold putKs at h
    by_cases e : k' = k
    · rw [if_pos e] at h; exact .inl h
    · rw [if_neg e] at h
      rcases List.mem_cons.mp h with rfl | h
      · exact .inl List.mem_cons_self
      · exact (putKs_mem (by simpa using hl) h).imp (List.mem_cons_of_mem _) id
theorem putKs_nodup {κ α : Type} [DecidableEq κ] : ∀ {ks : List κ} {vs : List α} {k : κ} {v : α}, ks.length = vs.length → ks.Nodup → (putKs ks vs k v).1.Nodup
  | [], [], _, _, _, _ => by simp [putKs]
  | k' :: ks, v' :: vs, k, v, hl, nd => by
    obtain ⟨n1, n2⟩ := List.nodup_cons.mp nd
    unfold putKs
    by_cases e : k' = k
    · rw [if_pos e]; exact nd
    · rw [if_neg e]
      exact List.nodup_cons.mpr ⟨fun h => (putKs_mem (by simpa using hl) h).elim n1 e, putKs_nodup (by simpa using hl) n2⟩
theorem putKs_fst {κ α β : Type} [DecidableEq κ] : ∀ {ks : List κ} {vs : List α} {ds : List β} {k : κ} {v : α} {d : β}, ks.length = vs.length → vs.length = ds.length → (putKs ks vs k v).1 = (putKs ks ds k d).1
  | [], [], [], _, _, _, _, _ => rfl
  | k' :: ks, v' :: vs, d' :: ds, k, v, d, hl, hl2 => by
    unfold putKs
    by_cases e : k' = k
    · rw [if_pos e, if_pos e]
    · rw [if_neg e, if_neg e, putKs_fst (ks := ks) (vs := vs) (ds := ds) (by simpa using hl) (by simpa using hl2)]
/-- the values behind a store: out of those ahead and the new one -/
theorem putKs_vals {κ : Type} [DecidableEq κ] : ∀ {ks : List κ} {vs : List V} {ds : List D} {k : κ} {v : V} {d : D}, ks.length = vs.length → vs.length = ds.length →
    ∃ A : List Res, (vals vs ds ++ [Res.val v d]).Perm (A ++ vals (putKs ks vs k v).2 (putKs ks ds k d).2)
  | [], [], [], k, v, d, _, _ => ⟨[], .refl _⟩
  | k' :: ks, v' :: vs, d' :: ds, k, v, d, hl, hl2 => by
    unfold putKs
    by_cases e : k' = k
    · rw [if_pos e, if_pos e]
      refine ⟨[Res.val v' d'], ?_⟩
      show (Res.val v' d' :: (vals vs ds ++ [Res.val v d])).Perm (Res.val v' d' :: Res.val v d :: vals vs ds)
      exact (List.perm_append_comm).cons _
    · rw [if_neg e, if_neg e]
      obtain ⟨A, p⟩ := putKs_vals (ks := ks) (vs := vs) (ds := ds) (k := k) (v := v) (d := d) (by simpa using hl) (by simpa using hl2)
      refine ⟨A, ?_⟩
      show (Res.val v' d' :: (vals vs ds ++ [Res.val v d])).Perm (A ++ Res.val v' d' :: vals _ _)
      exact (p.cons _).trans List.perm_middle.symm
end
end Z
set_option Elab.async false
set_option linter.all false
set_option maxRecDepth 100000
set_option autoImplicit false
namespace Z
open PySem PySem.Spec PyProof.Rows L2
section
variable {K : PySem.W.Frag} {pn : List (Nat × V)} {σ : L2.St} {δ : Env} {Fr Fr' : List Res} {H H' : Hp} {v : V} {d : D} {mu : List Nat}
/-- as Sim.put, wherever the slot is -/
theorem Sim.put' {i : Nat} (s : Sim K pn σ δ (.val v d :: Fr) H) (hp : ∀ p ∈ pn, p.1 ≠ i) : Sim K pn (σ.set i (some v)) (δ.set i (some d)) Fr H := by
  by_cases hi : i < δ.length
  · exact s.put hi hp
  · rw [List.set_eq_of_length_le (by rw [s.len]; omega), List.set_eq_of_length_le (by omega)]
    exact s.drop
theorem pn_ne {i : Nat} (h : Pn mu pn) (hi : i ∉ mu) : ∀ p ∈ pn, p.1 ≠ i := fun p hp e => hi (e ▸ h p hp)
end
section
variable {X : Cx} {W : WX} {mu : List Nat} {ex a b : Expr} {wp wp' : WP} {we we' : WE} {wt wt' : WPT} {wu wu' : WT} {pos : Pos} {K : PySem.W.Frag} {H : Hp} {L : List Res} {v : V} {d : D}
/-! ### targets -/
theorem g_name {i : Nat} {x : Str} (hN : X.N.Nodup) (hi : X.N[i]? = some x) (hx : Loc X.env.scope x) (hf : X.fn x = true ∨ X.env.scope.names.lookup x = some .local) (hm : i ∉ mu) : PG X (.Name x pos) (liftG X.K mu [i] (wpG (.name i))) :=
  PGmono (pg_name hN hi hx hf) fun v σ H Q ⟨pn, d, δ, Fr, R, hp, s, h, q⟩ => q _ _ h ⟨List.length_set .., fun j hj => List.getElem?_set_ne (by simpa using (fun e => hj (by simp [e])))⟩ (s.put' (pn_ne hp hm))
theorem gs_nil : PGs X [] (liftGs X.K mu [] (wpGs [])) := PGsmono pgs_nil fun vs σ H Q ⟨pn, ds, δ, Fr, R, hp, hl, s, h, q⟩ => by
  match ds, h with
  | [], h =>
    have : vs = [] := List.eq_nil_of_length_eq_zero hl
    subst this
    exact ⟨rfl, q σ δ h ⟨rfl, fun _ _ => rfl⟩ s⟩
theorem gs_cons {e : Expr} {es : List Expr} {g : G} {gs : List G} {ns ms : List Nat} (h1 : PG X e (liftG X.K mu ns (wpG g))) (h2 : PGs X es (liftGs X.K mu ms (wpGs gs))) (hs : assignEach (e :: es) X.env = (false, assign e X.env) :: assignEach es X.env) :
    PGs X (e :: es) (liftGs X.K mu (ns ++ ms) (wpGs (g :: gs))) := by
  refine PGsmono (pgs_cons h1 h2 ?_) fun vs σ H Q ⟨pn, ds, δ, Fr, R, hp, hl, s, h, q⟩ => ?_
  · rw [hs]; rfl
  · match ds, h with
    | d :: ds, h =>
      match vs, hl with
      | v :: vs, hl =>
        refine ⟨v, vs, rfl, pn, d, δ, vals vs ds ++ Fr, _, hp, s, h, fun σ1 δ1 h1 hq1 s1 => ⟨pn, ds, δ1, Fr, R, hp, by simpa using hl, s1, h1, fun σ2 δ2 h2 hq2 s2 => q σ2 δ2 h2 ⟨hq2.1.trans hq1.1, fun i hi => ?_⟩ s2⟩⟩
        simp only [List.mem_append, not_or] at hi
        rw [hq2.2 i hi.2, hq1.2 i hi.1]
theorem g_tup {es : List Expr} {gs : List G} {k : Nat} {ns : List Nat} {n : Nat} (hc : X.calm = true) (h : PGs X es (liftGs X.K mu ns (wpGs gs))) (hg : gs.length = n) (hn : (assignEach es X.env).length = n) (hst : (assignEach es X.env).findIdx? (·.1) = none) :
    PG X (.Tuple es k pos) (liftG X.K mu ns (wpG (.tup gs))) := by
  refine PGmono (pg_tup hc h hn hst) fun v σ H Q ⟨pn, d, δ, Fr, R, hp, s, h, q⟩ => ?_
  match d, h with
  | .nd .tup o ds, h =>
    obtain ⟨a, vs, rfl, hl, e, g⟩ := Good.untup (L := Fr ++ envR σ δ) (Sim.front2 (A := [_]) s)
    exact ⟨a, vs, rfl, .inl e.rd, by rw [hl, h.1, hg], pn, ds, δ, Fr, R, hp, hl, s.ofA g, h.2, q⟩
/-! ### statements -/
theorem s_set {i : Nat} {x : Str} {p : Pos} (hN : X.N.Nodup) (hi : X.N[i]? = some x) (hx : Loc X.env.scope x) (hf : X.fn x = true ∨ X.env.scope.names.lookup x = some .local) (hm : i ∉ mu) (he : PE X ex (liftE X.K mu we)) (hs : swapsWith ex (some (.Name x p)) pos.line X.env = pure false) :
    PS X (.Assign [.Name x p] ex pos) (liftS X.K mu X.mg W fun δ Q => we δ fun d δ1 => Q (.nx (δ1.set i (some d)))) :=
  PSmono (ps_set hN hi hx he hs hf) fun Dn σ H ⟨pn, δ, Fr, R, hp, s, h, q, _⟩ => ⟨pn, δ, Fr, _, hp, s, h, fun d δ1 v H1 hr s1 => q _ _ _ hr (s1.put' (pn_ne hp hm))⟩
theorem s_asg {tg : Expr} {g : G} {ns : List Nat} (he : PE X ex (liftE X.K mu we)) (hg : PG X tg (liftG X.K mu ns (wpG g))) (hs : swapsWithSole [tg] ex pos.line X.env = pure false) (hw : swappedStores [tg] ex X.env = pure none) (h1 : (assignEach [tg] X.env).map (·.2) = [assign tg X.env]) :
    PS X (.Assign [tg] ex pos) (liftS X.K mu X.mg W fun δ Q => we δ fun d δ1 => wpG g d δ1 fun δ2 => Q (.nx δ2)) :=
  PSmono (ps_asg he hg hs hw h1) fun Dn σ H ⟨pn, δ, Fr, R, hp, s, h, q, _⟩ => ⟨pn, δ, Fr, _, hp, s, h, fun d δ1 v H1 hr s1 => ⟨pn, d, δ1, Fr, _, hp, s1, hr, fun σ2 δ2 hr2 _ s2 => q _ _ _ hr2 s2⟩⟩
theorem s_ex (he : PE X ex (liftE X.K mu we)) (hs : swapsWith ex none pos.line X.env = pure false) : PS X (.Expr ex pos) (liftS X.K mu X.mg W fun δ Q => we δ fun _ δ1 => Q (.nx δ1)) :=
  PSmono (ps_expr he hs) fun Dn σ H ⟨pn, δ, Fr, R, hp, s, h, q, _⟩ => ⟨pn, δ, Fr, _, hp, s, h, fun d δ1 v H1 hr s1 => q _ _ _ hr s1.drop⟩
theorem s_ret (he : PE X ex (liftE X.K mu we)) : PS X (.Return (some ex) pos) (liftS X.K mu X.mg W fun δ Q => we δ fun d δ1 => Q (.rt d δ1)) :=
  PSmono (ps_ret he) fun Dn σ H ⟨pn, δ, Fr, R, hp, s, h, _, _, _, q, _⟩ => ⟨pn, δ, Fr, _, hp, s, h, fun d δ1 v H1 hr s1 => q _ _ _ _ _ hr s1⟩
theorem s_brk : PS X (.Break pos) (liftS X.K mu X.mg W fun δ Q => Q (.bk δ)) := PSmono ps_break fun Dn σ H ⟨pn, δ, Fr, R, hp, s, h, _, q, _⟩ => q _ _ _ h s
theorem s_cnt : PS X (.Continue pos) (liftS X.K mu X.mg W fun δ Q => Q (.ct δ)) := PSmono ps_continue fun Dn σ H ⟨pn, δ, Fr, R, hp, s, h, _, _, q, _⟩ => q _ _ _ h s
theorem s_pass : PS X (.Pass pos) (liftS X.K mu X.mg W fun δ Q => Q (.nx δ)) := PSmono ps_pass fun Dn σ H ⟨pn, δ, Fr, R, hp, s, h, q, _⟩ => q _ _ _ h s
theorem s_if {c : Expr} {p q : List Stmt} {w1 w2 : WS} (hc : PT X c (liftT X.K mu wu)) (h1 : PSs X p (liftS X.K mu X.mg W w1)) (h2 : PSs X q (liftS X.K mu X.mg W w2)) : PS X (.If c p q pos) (liftS X.K mu X.mg W fun δ Q => wu δ fun c δ1 => if c = true then w1 δ1 Q else w2 δ1 Q) :=
  PSmono (ps_if hc h1 h2) fun Dn σ H ⟨pn, δ, Fr, R, hp, s, h, q⟩ => ⟨pn, δ, Fr, _, hp, s, h, fun c δ1 H1 hr s1 => by
    cases c with
    | true => exact ⟨pn, δ1, Fr, R, hp, s1, hr, q⟩
    | false => exact ⟨pn, δ1, Fr, R, hp, s1, hr, q⟩⟩
theorem ss_nil : PSs X [] (liftS X.K mu X.mg W fun δ Q => Q (.nx δ)) := PSsmono pss_nil fun Dn σ H ⟨pn, δ, Fr, R, hp, s, h, q, _⟩ => q _ _ _ h s
def seqW (w1 w2 : WS) : WS := fun δ Q => w1 δ fun o => match o with
  | .nx δ1 => w2 δ1 Q
  | o => Q o
theorem ss_cons {st : Stmt} {r : List Stmt} {w1 w2 : WS} (h1 : PS X st (liftS X.K mu X.mg W w1)) (h2 : PSs X r (liftS X.K mu X.mg W w2)) : PSs X (st :: r) (liftS X.K mu X.mg W (seqW w1 w2)) :=
  PSsmono (pss_cons h1 h2) fun Dn σ H ⟨pn, δ, Fr, R, hp, s, h, q1, q2, q3, q4⟩ => ⟨pn, δ, Fr, _, hp, s, h, fun δ1 σ1 H1 hr s1 => ⟨pn, δ1, Fr, R, hp, s1, hr, q1, q2, q3, q4⟩, q2, q3, q4⟩
theorem s_while {c : Expr} {p : List Stmt} {w1 : WS} (hx : PassesOwn (model X.prog X.w) X.A X.env X.xe) (hc : PT X c (liftT X.K mu wu)) (h1 : PSs X p (liftS X.K mu X.mg W w1)) : PS X (.While c p [] pos) (liftS X.K mu X.mg W fun δ Q => ∃ n, whlW wu w1 n δ Q) :=
  PSmono (ps_while hx hc h1) fun Dn σ H ⟨pn, δ, Fr, R, hp, s, ⟨n, h⟩, q1, q2, q3, q4⟩ => by
    refine ⟨fun m σ H => ∃ δ, Sim X.K pn σ δ Fr H ∧ whlW wu w1 m δ R, ⟨n, δ, s, h⟩, fun m σ H ⟨δ, s, h⟩ => ?_⟩
    cases m with
    | zero => exact h.elim
    | succ m =>
      refine ⟨pn, δ, Fr, _, hp, s, h, fun c δ1 H1 hr s1 => ?_⟩
      cases c with
      | true =>
        rw [if_pos rfl] at hr
        rw [if_pos rfl]
        refine ⟨fun σ' H' => ∃ δ, Sim X.K pn σ' δ Fr H' ∧ whlW wu w1 m δ R, fun σ' H' hn => ⟨m, Nat.lt_succ_self _, hn⟩, pn, δ1, Fr, _, hp, s1, hr, ?_, ?_, ?_, ?_, ?_⟩
        · exact fun δ2 σ2 H2 hr2 s2 => ⟨δ2, s2, hr2⟩
        · exact fun δ2 σ2 H2 hr2 s2 => q1 _ _ _ hr2 s2
        · exact fun δ2 σ2 H2 hr2 s2 => ⟨δ2, s2, hr2⟩
        · exact fun d δ2 v σ2 H2 hr2 s2 => q4.1 _ _ _ _ _ hr2 s2
        · exact fun x C fs d δ2 σ2 H2 hr2 hm s2 => q4.2 _ _ _ _ _ _ _ hr2 hm s2
      | false =>
        rw [if_neg (by decide)] at hr
        rw [if_neg (by decide)]
        exact q1 _ _ _ hr s1
theorem s_for {tg it : Expr} {p : List Stmt} {g : G} {ns : List Nat} {wi : WEs} {w1 : WS} (hx : PassesOwn (model X.prog X.w) X.A X.env X.xe) (hc : X.calm = true) (hi : PI X tg it (liftI X.K mu wi)) (hg : PG X tg (liftG X.K mu ns (wpG g))) (h1 : PSs X p (liftS X.K mu X.mg W w1))
    (hs : ∀ x, foldedSetIterable it X.env x = pure x) : PS X (.For tg it p [] pos) (liftS X.K mu X.mg W fun δ Q => wi δ fun ds δ1 => forW (fun d δ q => wpG g d δ fun δ1 => w1 δ1 q) ds δ1 Q) :=
  PSmono (ps_for hx hc hi hg h1 hs) fun Dn σ H ⟨pn, δ, Fr, R, hp, s, h, q1, q2, q3, q4⟩ => ⟨pn, δ, Fr, _, hp, s, h, fun ds δ1 J L0 H1 hr dw s1 => by
    refine ⟨fun i m σ H => ∃ δ, Sim X.K pn σ δ (L0 ++ Fr) H ∧ i + m = ds.length ∧ forW (fun d δ q => wpG g d δ fun δ1 => w1 δ1 q) (ds.drop i) δ R, ⟨ds.length, δ1, s1, by omega, hr⟩, fun i m σ H ⟨δ, s, hm, h⟩ => ?_⟩
    have gd : Good X.K H (L0 ++ (Fr ++ envR σ δ)) := s.front2
    by_cases hlt : i < ds.length
    · rw [List.drop_eq_getElem_cons hlt] at h
      refine .inr ⟨dw.goes i H _ hlt gd, fun σ' H' => ∃ δ, Sim X.K pn σ' δ (L0 ++ Fr) H' ∧ forW (fun d δ q => wpG g d δ fun δ1 => w1 δ1 q) (ds.drop (i + 1)) δ R, fun σ' H' ⟨δ', s', h'⟩ => ⟨m - 1, by omega, δ', s', by omega, h'⟩, fun x H' hy => ?_⟩
      have g2 := dw.yields i H _ x H' ds[i] (List.getElem?_eq_getElem hlt) gd hy
      have s2 : Sim X.K pn σ δ (.val x ds[i] :: (L0 ++ Fr)) H' := s.ofc (by simpa [List.append_assoc] using g2)
      refine ⟨pn, ds[i], δ, L0 ++ Fr, _, hp, s2, h, fun σ3 δ3 hr3 _ s3 => ⟨pn, δ3, L0 ++ Fr, _, hp, s3, hr3, ?_, ?_, ?_, ?_, ?_⟩⟩
      · exact fun δ4 σ4 H4 hr4 s4 => ⟨δ4, s4, hr4⟩
      · exact fun δ4 σ4 H4 hr4 s4 => q1 _ _ _ hr4 s4.dropL
      · exact fun δ4 σ4 H4 hr4 s4 => ⟨δ4, s4, hr4⟩
      · exact fun d δ4 v σ4 H4 hr4 s4 => q4.1 _ _ _ _ _ hr4 (s4.under)
      · exact fun x C fs d δ4 σ4 H4 hr4 hm s4 => q4.2 _ _ _ _ _ _ _ hr4 hm (s4.under)
    · have e : i = ds.length := by omega
      subst e
      rw [List.drop_length] at h
      exact .inl ⟨dw.stops H _ gd, q1 _ _ _ h s.dropL⟩⟩
end
end Z
set_option Elab.async false
set_option linter.all false
set_option maxRecDepth 100000
set_option maxHeartbeats 1000000
set_option autoImplicit false
namespace Z
open PySem PySem.Spec PyProof.Rows L2

/-! ## what is walked: lists and tuples in any mix -/
def Src (K : PySem.W.Frag) (H : Hp) (t : Bool) (a : Addr) (xs : List V) : Prop := if t = true then SqT K H a xs else SqL K H a xs
def srcO (t : Bool) (a : Addr) : Obj := { cls := .type (if t = true then "tuple_iterator" else "list_iterator"), data := .fields #[.ref a, .int 0 0] }
def srcH (t : Bool) (a : Addr) (its : Array Value) (h : Heap) : Prop := if t = true then h.IsTuple a its else h.IsList a its
def srcI (t : Bool) (it a : Addr) (i : Nat) (h : Heap) : Prop := if t = true then h.IsTupleIter it a i else h.IsListIter it a i
theorem src_begins (t : Bool) (a : Addr) (its : Array Value) : Begins (.ref a) (srcO t a) (srcH t a its) := by
  cases t with
  | true => exact begins_tuple a its
  | false => exact begins_list a its
theorem src_draws {prog : Program} {w : World} {A : Around} (hh : A.handled = none) (t : Bool) (it a : Addr) (hne : a ≠ it) (its : Array Value) :
    Draws prog w A it [it, a] its.size (fun i v => its[i]? = some v) (fun i h => srcI t it a i h ∧ srcH t a its h) := by
  cases t with
  | true => exact Draws.tuple hh it a hne its
  | false => exact Draws.list hh it a hne its
theorem src_iter0 {t : Bool} {it a : Addr} {h : Heap} (e : h.get? it = some (srcO t a)) : srcI t it a 0 h := by
  cases t with
  | true => exact ⟨_, e, rfl, rfl⟩
  | false => exact ⟨_, e, rfl, rfl⟩
theorem src_obj {t : Bool} {it a : Addr} {i : Nat} {h : Heap} (x : srcI t it a i h) : ∃ o, h.get? it = some o ∧ ∀ v, o.data ≠ .cell v := by
  cases t with
  | true =>
    obtain ⟨o, e, c, d⟩ := (show h.IsTupleIter it a i from x)
    exact ⟨o, e, fun v z => by rw [d] at z; cases z⟩
  | false =>
    obtain ⟨o, e, c, d⟩ := (show h.IsListIter it a i from x)
    exact ⟨o, e, fun v z => by rw [d] at z; cases z⟩
theorem src_keep {t : Bool} {it a : Addr} {i : Nat} {h h' : Heap} (x : srcI t it a i h) (k : ∀ o, h.get? it = some o → h'.get? it = some o) : srcI t it a i h' := by
  cases t with
  | true => exact Heap.IsTupleIter.at (show h.IsTupleIter it a i from x) k
  | false => exact Heap.IsListIter.at (show h.IsListIter it a i from x) k
theorem src_inv {X : Cx} {pins : List (Addr × Obj)} {σ : L2.St} {H : Hp} {s : Shared} {t : Bool} {a : Addr} {xs : List V} (I : Inv X pins σ H s) (h : Src X.K H t a xs) : ∃ its : List Value, Vals xs its ∧ srcH t a its.toArray s.heap ∧ xs.length ≤ sizeLine := by
  cases t with
  | true =>
    obtain ⟨its, r, p, hz⟩ := I.tuple h
    exact ⟨its, r, p, hz⟩
  | false =>
    obtain ⟨its, r, p, hz⟩ := I.list h
    exact ⟨its, r, p.isList, hz⟩
theorem src_inj {X : Cx} {pins : List (Addr × Obj)} {σ : L2.St} {H : Hp} {s : Shared} {t : Bool} {a : Addr} {xs ys : List V} (I : Inv X pins σ H s) (h : Src X.K H t a xs) (h' : Src X.K H t a ys) : xs = ys := by
  cases t with
  | true => exact I.tuple_inj h h'
  | false => exact I.list_inj h h'
theorem mem4 {N b : Nat} (h : b ∈ [N + 4, N + 3, N, N + 1]) : b ∈ [N + 4, N + 2, N + 3, N, N + 1] := by
  simp only [List.mem_cons, List.not_mem_nil, or_false] at h ⊢
  rcases h with h | h | h | h
  · exact .inl h
  · exact .inr (.inr (.inl h))
  · exact .inr (.inr (.inr (.inl h)))
  · exact .inr (.inr (.inr (.inr h)))
/-- the pairs of two sources, each pair new -/
def Itz2 (K : PySem.W.Frag) (t1 : Bool) (a : Addr) (t2 : Bool) (b : Addr) : L2.It :=
  ⟨fun i H => ∃ xs ys, Src K H t1 a xs ∧ Src K H t2 b ys ∧ i < min xs.length ys.length,
   fun i H v H' => ∃ T x y, v = .ref T ∧ H T = none ∧ H' = upd H T (.tup [x, y]) ∧ (∀ xs, Src K H t1 a xs → xs[i]? = some x) ∧ (∀ ys, Src K H t2 b ys → ys[i]? = some y),
   fun i H => ∃ xs ys, Src K H t1 a xs ∧ Src K H t2 b ys ∧ i = min xs.length ys.length⟩
theorem turn_zip2 {P : Program} {w : World} {K : PySem.W.Frag} {elts : List Expr} {kk : Nat} {tpos : Pos} {t1 t2 : Bool} {a b : Addr} {N : Nat} (ha : a < N) (hb : b < N) :
    Turn P w K (.Tuple elts kk tpos) (Itz2 K t1 a t2 b) [N + 4, N + 2, N + 3, N, N + 1] (N + 4) (fun i h => IsZip h (N + 4) (N + 2) (N + 3) .none ∧ IsTupOf2 h (N + 2) (.ref N) (.ref (N + 1)) ∧ (∃ a1 a2, IsTupOf2 h (N + 3) a1 a2) ∧ srcI t1 N a i h ∧ srcI t2 (N + 1) b i h) where
  mem := by simp
  obj := fun i h st c hc => by
    obtain ⟨s1, s2, ⟨u1, u2, s3⟩, s4, s5⟩ := st
    have e' : c = N + 4 ∨ c = N + 2 ∨ c = N + 3 ∨ c = N ∨ c = N + 1 := by simpa using hc
    rcases e' with z | z | z | z | z
    · subst z; exact ⟨_, s1, fun v z => by cases z⟩
    · subst z; exact ⟨_, s2, fun v z => by cases z⟩
    · subst z; exact ⟨_, s3, fun v z => by cases z⟩
    · subst z; exact src_obj s4
    · subst z; exact src_obj s5
  keep := fun i h h' st k => by
    obtain ⟨s1, s2, ⟨u1, u2, s3⟩, s4, s5⟩ := st
    exact ⟨k _ (by simp) _ s1, k _ (by simp) _ s2, ⟨u1, u2, k _ (by simp) _ s3⟩, src_keep s4 fun o e => k _ (by simp) o e, src_keep s5 fun o e => k _ (by simp) o e⟩
  item := by
    intro X hP hw hK hc i pins s σ H E I hf st hg
    subst hP hw hK
    obtain ⟨xs, ys, q1, q2, hi⟩ := hg
    obtain ⟨its, rv, h1, hz1⟩ := src_inv I q1
    obtain ⟨its2, rv2, h2, hz2⟩ := src_inv I q2
    obtain ⟨s1, s2, s3, s4, s5⟩ := st
    have hh : X.A.in1.handled = none := I.ok.hd hc
    have na : a ≠ N := Nat.ne_of_lt ha
    have nb : b ≠ N + 1 := Nat.ne_of_lt (Nat.lt_succ_of_lt hb)
    have W := GoesN.zip2 (elts := elts) (x1 := kk) (pos := tpos) (zip_sep2 (N := N) (fp1 := [a]) (fp2 := [b]) (by simpa using ha) (by simpa using hb)) (src_draws (prog := X.prog) (w := X.w) hh t1 N a na its.toArray) (src_draws (prog := X.prog) (w := X.w) hh t2 (N + 1) b nb its2.toArray)
    have hl1 := rv.length
    have hl2 := rv2.length
    refine W.goes i s _ E (by simp; omega) ⟨s1, s2, s3, ⟨s4, h1⟩, ⟨s5, h2⟩⟩ fun v h' tk hY st' hk htk => ?_
    obtain ⟨T, x, y, rfl, hT, hx, hy, hTT⟩ := hY
    obtain ⟨x', hx', rx⟩ : ∃ x', xs[i]? = some x' ∧ RelV x' x := by
      have hi1 : i < xs.length := by omega
      obtain ⟨u, hu, ru⟩ := rv.get (List.getElem?_eq_getElem hi1)
      have : u = x := by
        have hx2 : its[i]? = some x := by simpa using hx
        rw [hu] at hx2; exact Option.some.inj hx2
      subst this
      exact ⟨_, List.getElem?_eq_getElem hi1, ru⟩
    obtain ⟨y', hy', ry⟩ : ∃ y', ys[i]? = some y' ∧ RelV y' y := by
      have hi1 : i < ys.length := by omega
      obtain ⟨u, hu, ru⟩ := rv2.get (List.getElem?_eq_getElem hi1)
      have : u = y := by
        have hx2 : its2[i]? = some y := by simpa using hy
        rw [hu] at hx2; exact Option.some.inj hx2
      subst this
      exact ⟨_, List.getElem?_eq_getElem hi1, ru⟩
    have hn : H T = none := I.hok.fresh hT
    refine ⟨.ref T, upd H T (.tup [x', y']), I.turnedNew (t' := tk) (ch := [N + 4, N + 3, N, N + 1]) hk (fun b hb => hf b (mem4 hb)) hT ⟨by show 2 ≤ sizeLine; rw [sizeLine_eq]; omega, [x, y], .cons rx (.cons ry .nil), hTT⟩, rfl, ⟨T, x', y', rfl, hn, rfl, fun zs hz => ?_, fun zs hz => ?_⟩, ⟨st'.1, st'.2.1, st'.2.2.1, st'.2.2.2.1.1, st'.2.2.2.2.1⟩, fun b hb => ?_⟩
    · rw [src_inj I hz q1]; exact hx'
    · rw [src_inj I hz q2]; exact hy'
    · have hbn := (hf b hb).1
      rw [upd_ne ?_]
      · exact hbn
      · intro z
        obtain ⟨o, e, _⟩ : ∃ o, s.heap.get? b = some o ∧ True := by
          have e' : b = N + 4 ∨ b = N + 2 ∨ b = N + 3 ∨ b = N ∨ b = N + 1 := by simpa using hb
          obtain ⟨u1, u2, s3⟩ := s3
          rcases e' with z | z | z | z | z
          · subst z; exact ⟨_, s1, trivial⟩
          · subst z; exact ⟨_, s2, trivial⟩
          · subst z; exact ⟨_, s3, trivial⟩
          · subst z; obtain ⟨o, e, _⟩ := src_obj s4; exact ⟨o, e, trivial⟩
          · subst z; obtain ⟨o, e, _⟩ := src_obj s5; exact ⟨o, e, trivial⟩
        rw [z] at e
        exact absurd (Nat.lt_of_lt_of_le (Heap.lt_size e) hT) (Nat.lt_irrefl _)
  done := by
    intro X hP hw hK hc i pins s σ H E I hf st hg
    subst hP hw hK
    obtain ⟨xs, ys, q1, q2, hi⟩ := hg
    obtain ⟨its, rv, h1, hz1⟩ := src_inv I q1
    obtain ⟨its2, rv2, h2, hz2⟩ := src_inv I q2
    obtain ⟨s1, s2, s3, s4, s5⟩ := st
    have hh : X.A.in1.handled = none := I.ok.hd hc
    have na : a ≠ N := Nat.ne_of_lt ha
    have nb : b ≠ N + 1 := Nat.ne_of_lt (Nat.lt_succ_of_lt hb)
    have W := GoesN.zip2 (elts := elts) (x1 := kk) (pos := tpos) (zip_sep2 (N := N) (fp1 := [a]) (fp2 := [b]) (by simpa using ha) (by simpa using hb)) (src_draws (prog := X.prog) (w := X.w) hh t1 N a na its.toArray) (src_draws (prog := X.prog) (w := X.w) hh t2 (N + 1) b nb its2.toArray)
    have hl1 := rv.length
    have hl2 := rv2.length
    have en : i = min its.toArray.size its2.toArray.size := by simp; omega
    subst en
    exact W.stops s _ E ⟨s1, s2, s3, ⟨s4, h1⟩, ⟨s5, h2⟩⟩ fun h' tk hk _ => I.turnedL (t' := tk) (ch := [N + 4, N + 3, N, N + 1]) hk (fun b hb => hf b (mem4 hb))
  self := fun A i s Q E st h => wpAny_pyIter_zip st.1 h

/-! ### enumerate -/
theorem meets_enum1 {v : Value} {o : Obj} {Hb : Heap → Prop} (B : Begins v o Hb) :
    Meets (Builtin.«enumerate.__new__» ⟨[.type "enumerate", v], []⟩) (fun _ R s => Hb s.heap ∧ R (.ok (.ret (.ref (s.heap.push o).objs.size))) { s with heap := (s.heap.push o).push { cls := .type "enumerate", data := .fields #[.none, .bool false, .ref s.heap.objs.size, rawInt 0, .none, .none] } }) :=
  .of_wp fun prog w A R s h => by
    obtain ⟨hp, g, d, tk, os⟩ := s
    obtain ⟨hb, h⟩ := h
    have hsub := sub_enumerate
    have begin1 : ∀ {A' : Around} {E : Value → Shared → Prop} {Q : Value → Shared → Prop}, Q (.ref hp.objs.size) ⟨hp.push o, g, d, tk, os⟩ → wpAny (model prog w) A' (pyIter v) Q E ⟨hp, g, d, tk, os⟩ := fun q => B.iter prog w _ _ ⟨hp, g, d, tk, os⟩ _ hb q
    wp_walk using begin1
    refine wpAny_stack_any fun st => wpAny_pure ?_
    split
    · rename_i c _ _ _ _ _
      cases (c == Value.type "enumerate") <;> (wp_walk using begin1; exact ⟨_, rfl, h⟩)
    · wp_walk using begin1
      exact ⟨_, rfl, h⟩
theorem enum1_begins {prog : Program} {w : World} {A : Around} {E : Value → Shared → Prop} {s : Shared} {v : Value} {o : Obj} {Hb : Heap → Prop} {Q : Value → Shared → Prop} (B : Begins v o Hb) (h1 : Hb s.heap)
    (h : ∀ h', IsEnum h' (s.heap.objs.size + 1) s.heap.objs.size 0 .none → h'.get? s.heap.objs.size = some o → (∀ b o, s.heap.get? b = some o → h'.get? b = some o) → Q (.ref (s.heap.objs.size + 1)) { s with heap := h' }) :
    wpAny (model prog w) A (call (.type "enumerate") [v]) Q E s := by
  refine callType_new F.called_enumerate (by decide) (F.typeCall_enumerate_1 _) (F.newCall_enumerate_1 _) (fun obj => F.args_object_init_2 obj _) F.entry_enumerate_new (meets_enum1 B) ⟨h1, ?_⟩
  have hz : (s.heap.push o).objs.size = s.heap.objs.size + 1 := Heap.size_push ..
  show _ ∧ _
  rw [hz]
  have he : IsEnum ((s.heap.push o).push { cls := .type "enumerate", data := .fields #[.none, .bool false, .ref s.heap.objs.size, rawInt 0, .none, .none] }) (s.heap.objs.size + 1) s.heap.objs.size 0 .none := by
    have q := Heap.get?_push_size (s.heap.push o) (o := { cls := .type "enumerate", data := .fields #[.none, .bool false, .ref s.heap.objs.size, rawInt 0, .none, .none] }) rfl
    rw [hz] at q; exact q
  exact ⟨⟨_, he, rfl⟩, h _ he (Heap.get?_push_of_some _ (Heap.get?_push_size _ B.free)) fun b o x => Heap.get?_push_of_some _ (Heap.get?_push_of_some _ x)⟩
theorem nf2 {a N : Nat} (h : a < N) : N + 1 ∉ [N, a] := by
  simp only [List.mem_cons, List.not_mem_nil, or_false]
  omega
def Ite2 (K : PySem.W.Frag) (t : Bool) (a : Addr) : L2.It :=
  ⟨fun i H => ∃ xs, Src K H t a xs ∧ i < xs.length,
   fun i H v H' => ∃ T x, v = .ref T ∧ H T = none ∧ H' = upd H T (.tup [.int (i : Nat), x]) ∧ ∀ xs, Src K H t a xs → xs[i]? = some x,
   fun i H => ∃ xs, Src K H t a xs ∧ i = xs.length⟩
theorem turn_enum2 {P : Program} {w : World} {K : PySem.W.Frag} {elts : List Expr} {kk : Nat} {tpos : Pos} {t : Bool} {a : Addr} {N : Nat} (ha : a < N) :
    Turn P w K (.Tuple elts kk tpos) (Ite2 K t a) [N + 1, N] (N + 1) (fun i h => (∃ old, IsEnum h (N + 1) N ((i : Nat) : Int) old) ∧ srcI t N a i h) where
  mem := by simp
  obj := fun i h st c hc => by
    obtain ⟨⟨old, s1⟩, s2⟩ := st
    have e' : c = N + 1 ∨ c = N := by simpa using hc
    rcases e' with z | z
    · subst z; exact ⟨_, s1, fun v z => by cases z⟩
    · subst z; exact src_obj s2
  keep := fun i h h' st k => ⟨let ⟨old, e⟩ := st.1; ⟨old, k _ (by simp) _ e⟩, src_keep st.2 fun o e => k _ (by simp) o e⟩
  item := by
    intro X hP hw hK hc i pins s σ H E I hf st hg
    subst hP hw hK
    obtain ⟨xs, q1, hi⟩ := hg
    obtain ⟨its, rv, h1, hz1⟩ := src_inv I q1
    obtain ⟨⟨old, s1⟩, s2⟩ := st
    have hh : X.A.in1.handled = none := I.ok.hd hc
    have na : a ≠ N := Nat.ne_of_lt ha
    have nf : N + 1 ∉ [N, a] := nf2 ha
    have W := GoesN.enumFrom (elts := elts) (x1 := kk) (pos := tpos) 0 (src_draws (prog := X.prog) (w := X.w) hh t N a na its.toArray) (N + 1) (Nat.succ_ne_self N) nf List.mem_cons_self
    have hl1 := rv.length
    have hi0 : (0 : Int) + (i : Int) = ((i : Nat) : Int) := by omega
    refine W.goes i s _ E (by simp; omega) ⟨⟨old, by rw [hi0]; exact s1⟩, s2, h1⟩ fun v h' tk hY st' hk htk => ?_
    obtain ⟨T, tt, x, rfl, hT, hx, hTT⟩ := hY
    rw [hi0] at hTT
    obtain ⟨x', hx', rx⟩ : ∃ x', xs[i]? = some x' ∧ RelV x' x := by
      obtain ⟨u, hu, ru⟩ := rv.get (List.getElem?_eq_getElem hi)
      have : u = x := by
        have hx2 : its[i]? = some x := by simpa using hx
        rw [hu] at hx2; exact Option.some.inj hx2
      subst this
      exact ⟨_, List.getElem?_eq_getElem hi, ru⟩
    have hn : H T = none := I.hok.fresh hT
    have e1 : (0 : Int) + ((i + 1 : Nat) : Int) = ((i + 1 : Nat) : Int) := by omega
    refine ⟨.ref T, upd H T (.tup [.int (i : Nat), x']), I.turnedNew (t' := tk) (ch := [N + 1, N]) hk hf hT ⟨by show 2 ≤ sizeLine; rw [sizeLine_eq]; omega, [.int i tt, x], .cons ⟨_, rfl⟩ (.cons rx .nil), hTT⟩, rfl, ⟨T, x', rfl, hn, rfl, fun zs hz => ?_⟩, ⟨?_, st'.2.1⟩, fun b hb => ?_⟩
    · rw [src_inj I hz q1]; exact hx'
    · obtain ⟨old', e⟩ := st'.1
      rw [e1] at e
      exact ⟨old', e⟩
    · have hbn := (hf b hb).1
      rw [upd_ne ?_]
      · exact hbn
      · intro z
        obtain ⟨o, e⟩ : ∃ o, s.heap.get? b = some o := by
          have e' : b = N + 1 ∨ b = N := by simpa using hb
          rcases e' with z | z
          · subst z; exact ⟨_, s1⟩
          · subst z; obtain ⟨o, e, _⟩ := src_obj s2; exact ⟨o, e⟩
        rw [z] at e
        exact absurd (Nat.lt_of_lt_of_le (Heap.lt_size e) hT) (Nat.lt_irrefl _)
  done := by
    intro X hP hw hK hc i pins s σ H E I hf st hg
    subst hP hw hK
    obtain ⟨xs, q1, hi⟩ := hg
    obtain ⟨its, rv, h1, hz1⟩ := src_inv I q1
    obtain ⟨⟨old, s1⟩, s2⟩ := st
    have hh : X.A.in1.handled = none := I.ok.hd hc
    have na : a ≠ N := Nat.ne_of_lt ha
    have nf : N + 1 ∉ [N, a] := nf2 ha
    have W := GoesN.enumFrom (elts := elts) (x1 := kk) (pos := tpos) 0 (src_draws (prog := X.prog) (w := X.w) hh t N a na its.toArray) (N + 1) (Nat.succ_ne_self N) nf List.mem_cons_self
    have hl1 := rv.length
    have en : i = its.toArray.size := by simp; omega
    subst en
    have hi0 : (0 : Int) + (its.toArray.size : Int) = ((its.toArray.size : Nat) : Int) := by omega
    exact W.stops s _ E ⟨⟨old, by rw [hi0]; exact s1⟩, s2, h1⟩ fun h' tk hk _ => I.turnedL (t' := tk) (ch := [N + 1, N]) hk hf
  self := fun A i s Q E st h => let ⟨⟨_, he⟩, _⟩ := st; wpAny_pyIter_enum he h
/-! ### what a for or a comprehension walks -/
section
variable {X : Cx} {tg e e2 : Expr} {p pos tpos : Pos} {elts : List Expr} {kk : Nat} {te : TE} {ta : TA}
/-- a list or a tuple -/
def iSeq (K : PySem.W.Frag) (te : TE) : TI := fun σ H R => te σ H fun x H1 => ∃ t a xs, x = .ref a ∧ Src K H1 t a xs ∧ R (if t = true then Itt K a else Itl K a) H1
theorem pi_seq (he : PE X e te) : PI X tg e (iSeq X.K te) := by
  refine ⟨fun pins s σ H R I h => ?_⟩
  refine thn (he.run pins s σ H _ I h) fun v s1 ⟨x, H1, I1, r1, t, a, xs, ex, hq, q⟩ => ?_
  subst ex
  cases r1
  have fin : ∀ b ∈ [s1.heap.objs.size], FpOk X pins H1 b := fun b hb => by
    have e : b = s1.heap.objs.size := by simpa using hb
    subst e
    exact I1.fpOk (Nat.le_refl _) (I1.hok.fresh (Nat.le_refl _))
  cases t with
  | true =>
    obtain ⟨its, rv, p, hz⟩ := I1.tuple hq
    refine wpAny_pyIter_tuple (show s1.heap.IsTuple a its.toArray from p) ?_
    exact ⟨s1.heap.objs.size, [s1.heap.objs.size], _, _, H1, rfl, I1.kept (t' := s1.toks) fun b o e => Heap.get?_push_of_some _ e, turn_tuple a _, ⟨_, Heap.get?_push_size _ rfl, rfl, rfl⟩, fin, q⟩
  | false =>
    obtain ⟨its, rv, p, hz⟩ := I1.list hq
    refine wpAny_pyIter_list p.isList ?_
    exact ⟨s1.heap.objs.size, [s1.heap.objs.size], _, _, H1, rfl, I1.kept (t' := s1.toks) fun b o e => Heap.get?_push_of_some _ e, turn_list a _, ⟨_, Heap.get?_push_size _ rfl, rfl, rfl⟩, fin, q⟩
def iZip2 (K : PySem.W.Frag) (ta : TA) : TI := fun σ H R => ta σ H fun vs H1 => ∃ t1 a t2 b xs ys, vs = [.ref a, .ref b] ∧ Src K H1 t1 a xs ∧ Src K H1 t2 b ys ∧ R (Itz2 K t1 a t2 b) H1
theorem srcH_lt {t : Bool} {a : Addr} {its : Array Value} {h : Heap} (x : srcH t a its h) : a < h.objs.size := by
  cases t with
  | true => obtain ⟨o, e, _⟩ := (show h.IsTuple a its from x); exact Heap.lt_size e
  | false => obtain ⟨o, e, _⟩ := (show h.IsList a its from x); exact Heap.lt_size e
theorem pi_zip2 (hg : Gl X "zip") (hm : X.mg "zip" = none) (ha : PA X [e, e2] ta) (hs : starEach [e, e2] X.env = (false, eval e X.env) :: starEach [e2] X.env) (hpl : (backTo pos (starEach [e2] X.env)).any (·.1) = false) :
    PI X (.Tuple elts kk tpos) (.Call (.Name "zip" p) [e, e2] [] pos) (iZip2 X.K ta) := by
  refine ⟨fun pins s σ H R I h => ?_⟩
  refine Call_ (ld_blt I hg hm PyProof.Rows.boot_zip (PyProof.Rows.callWith_type1 (thn (ha.run pos pins s σ H _ I h) fun us s1 ⟨vs, H1, I1, r1, q1⟩ => ?_) hs hpl))
  obtain ⟨t1, a, t2, b, xs, ys, ex, hqx, hqy, q⟩ := q1
  subst ex
  cases r1 with
  | cons r rr =>
    cases rr with
    | cons r' rr =>
      cases rr
      cases r
      cases r'
      obtain ⟨its, rv, p1, _⟩ := src_inv I1 hqx
      obtain ⟨its2, rv2, p2, _⟩ := src_inv I1 hqy
      refine zip_begins2 (src_begins t1 a its.toArray) (src_begins t2 b its2.toArray) p1 p2 fun h' hz hTI hTO h1 h2 hsz hk => wpAny_pyIter_zip hz ?_
      have I2 : Inv X pins σ H1 { s1 with heap := h' } := I1.kept (t' := s1.toks) hk
      refine ⟨s1.heap.objs.size + 4, _, _, _, H1, rfl, I2, turn_zip2 (N := s1.heap.objs.size) (srcH_lt p1) (srcH_lt p2), ⟨hz, hTI, ⟨_, _, hTO⟩, src_iter0 h1, src_iter0 h2⟩, fun c hcm => ?_, q⟩
      have hle : s1.heap.objs.size ≤ c := by
        simp only [List.mem_cons, List.not_mem_nil, or_false] at hcm
        rcases hcm with z | z | z | z | z <;> (rw [z]; first | exact Nat.le_add_right _ _ | exact Nat.le_refl _)
      exact I1.fpOk hle (I1.hok.fresh hle)
def iEnum2 (K : PySem.W.Frag) (ta : TA) : TI := fun σ H R => ta σ H fun vs H1 => ∃ t a xs, vs = [.ref a] ∧ Src K H1 t a xs ∧ R (Ite2 K t a) H1
theorem pi_enum2 (hg : Gl X "enumerate") (hm : X.mg "enumerate" = none) (ha : PA X [e] ta) (hs : starEach [e] X.env = [(false, eval e X.env)]) :
    PI X (.Tuple elts kk tpos) (.Call (.Name "enumerate" p) [e] [] pos) (iEnum2 X.K ta) := by
  refine ⟨fun pins s σ H R I h => ?_⟩
  refine Call_ (ld_blt I hg hm boot_enumerate (PyProof.Rows.callWith_type1 (thn (ha.run pos pins s σ H _ I h) fun us s1 ⟨vs, H1, I1, r1, q1⟩ => ?_) hs rfl))
  obtain ⟨t, a, xs, ex, hq, q⟩ := q1
  subst ex
  cases r1 with
  | cons r rr =>
    cases rr
    cases r
    obtain ⟨its, rv, p1, hz⟩ := src_inv I1 hq
    refine enum1_begins (src_begins t a its.toArray) p1 fun h' he h1 hk => wpAny_pyIter_enum he ?_
    have I2 : Inv X pins σ H1 { s1 with heap := h' } := I1.kept (t' := s1.toks) hk
    refine ⟨s1.heap.objs.size + 1, _, _, _, H1, rfl, I2, turn_enum2 (N := s1.heap.objs.size) (srcH_lt p1), ⟨⟨.none, he⟩, src_iter0 h1⟩, fun c hcm => ?_, q⟩
    have hle : s1.heap.objs.size ≤ c := by
      simp only [List.mem_cons, List.not_mem_nil, or_false] at hcm
      rcases hcm with z | z <;> (rw [z]; first | exact Nat.le_add_right _ _ | exact Nat.le_refl _)
    exact I1.fpOk hle (I1.hok.fresh hle)
end
end Z
set_option Elab.async false
set_option linter.all false
set_option maxRecDepth 100000
set_option autoImplicit false
namespace Z
open PySem PySem.Spec PyProof.Rows L2
section
variable {X : Cx} {W : WX} {mu : List Nat} {tg ex a b : Expr} {wp wp' : WP} {we we' : WE} {wu wu' : WT} {pos p tpos : Pos} {K : PySem.W.Frag} {H : Hp} {L : List Res} {v : V} {d : D} {elts : List Expr} {kk : Nat}
theorem frozL_get : ∀ {ds : List D} {i : Nat} {d : D}, frozL ds = true → ds[i]? = some d → d.froz = true
  | [], _, _, _, h => by simp at h
  | d :: ds, 0, _, hf, h => by
    simp only [frozL, Bool.and_eq_true] at hf
    obtain rfl : d = _ := by simpa using h
    exact hf.1
  | d :: ds, i + 1, _, hf, h => by
    simp only [frozL, Bool.and_eq_true] at hf
    exact frozL_get hf.2 (by simpa using h)
/-- a seen list or tuple, as a source -/
theorem seqD_src {R : List D → Prop} (i : In K H L v d) (h : seqD d R) : ∃ t a vs ds, v = .ref a ∧ Src K H t a vs ∧ vs.length = ds.length ∧ frozL ds = true ∧ (∃ k o, d = .nd k o ds ∧ k = (if t = true then .tup else .lst)) ∧ (∀ (i : Nat) (d : D), ds[i]? = some d → ∃ w, vs[i]? = some w ∧ In K H L w d) ∧ R ds := by
  unfold seqD at h
  split at h
  · obtain ⟨a, vs, rfl, hl, rd, hi⟩ := i.nd
    exact ⟨true, a, vs, _, rfl, .inl rd, hl, h.1, ⟨_, _, rfl, rfl⟩, hi, h.2⟩
  · obtain ⟨a, vs, rfl, hl, rd, hi⟩ := i.nd
    exact ⟨false, a, vs, _, rfl, rd, hl, h.1, ⟨_, _, rfl, rfl⟩, hi, h.2⟩
  · exact h.elim
theorem src_again {t : Bool} {o : Bool} {ds : List D} {k : Kd} (hk : k = (if t = true then .tup else .lst)) (i : In K H L v (.nd k o ds)) : ∃ a vs, v = .ref a ∧ Src K H t a vs ∧ vs.length = ds.length ∧ (∀ (i : Nat) (d : D), ds[i]? = some d → ∃ w, vs[i]? = some w ∧ In K H L w d) := by
  subst hk
  cases t with
  | true => obtain ⟨a, vs, rfl, hl, rd, hi⟩ := i.nd; exact ⟨a, vs, rfl, .inl rd, hl, hi⟩
  | false => obtain ⟨a, vs, rfl, hl, rd, hi⟩ := i.nd; exact ⟨a, vs, rfl, rd, hl, hi⟩
theorem dw_seq {t : Bool} {a : Addr} {o : Bool} {ds : List D} {k : Kd} (hk : k = (if t = true then .tup else .lst)) (hf : frozL ds = true) : DWalk K (if t = true then Itt K a else Itl K a) ds [.val (.ref a) (.nd k o ds)] where
  stops := fun H L g => by
    obtain ⟨a', vs, e, s, hl, hi⟩ := src_again hk (g.in (v := .ref a) (d := .nd k o ds) (by simp))
    cases e
    cases t with
    | true => exact ⟨vs, s, Nat.le_of_eq hl⟩
    | false => exact ⟨vs, s, Nat.le_of_eq hl⟩
  goes := fun i H L hlt g => by
    obtain ⟨a', vs, e, s, hl, hi⟩ := src_again hk (g.in (v := .ref a) (d := .nd k o ds) (by simp))
    cases e
    obtain ⟨w, e, _⟩ := hi i ds[i] (List.getElem?_eq_getElem hlt)
    cases t with
    | true => exact ⟨vs, w, s, e⟩
    | false => exact ⟨vs, w, s, e⟩
  yields := fun i H L x H' d hd g y => by
    obtain ⟨a', vs, e, s, hl, hi⟩ := src_again hk (g.in (v := .ref a) (d := .nd k o ds) (by simp))
    cases e
    obtain ⟨w, e, iw⟩ := hi i d hd
    have : H' = H ∧ vs[i]? = some x := by
      cases t with
      | true => exact ⟨y.1, y.2 vs s⟩
      | false => exact ⟨y.1, y.2 vs s⟩
    obtain ⟨rfl, e2⟩ := this
    obtain rfl : w = x := by rw [e] at e2; exact Option.some.inj e2
    exact iw.hold (frozL_get hf hd)
theorem i_seq (ha : PE X a (liftE X.K mu we)) : PI X tg a (liftI X.K mu fun δ Q => we δ fun d δ1 => seqD d fun ds => Q ds δ1) :=
  PImono (pi_seq ha) fun σ H R ⟨pn, δ, Fr, S, hp, s, h, q⟩ => ⟨pn, δ, Fr, _, hp, s, h, fun d δ1 v H1 hr s1 => by
    obtain ⟨t, a, vs, ds, rfl, src, hl, hf, ⟨k, o, rfl, hk⟩, hi, hr⟩ := seqD_src (s1.seen List.mem_cons_self) hr
    exact ⟨t, a, vs, rfl, src, q ds δ1 _ [.val (.ref a) (.nd k o ds)] H1 hr (dw_seq hk hf) s1⟩⟩
theorem i_str (ha : PE X a (liftE X.K mu we)) : PI X tg a (liftI X.K mu fun δ Q => we δ fun d δ1 => ∃ x, d = .at (.str x) ∧ Q (x.cps.toList.map fun c => .at (.str ⟨#[c]⟩)) δ1) :=
  PImono (pi_str ha) fun σ H R ⟨pn, δ, Fr, S, hp, s, h, q⟩ => ⟨pn, δ, Fr, _, hp, s, h, fun d δ1 v H1 ⟨x, e, hr⟩ s1 => by
    subst e
    refine ⟨x, (s1.seen (v := v) List.mem_cons_self).at, q _ δ1 _ [] H1 hr ?_ s1.drop⟩
    refine ⟨fun H L g => ?_, fun i H L hi g => ?_, fun i H L y H' d hd g z => ?_⟩
    · show x.cps.size ≤ _; simp
    · show i < x.cps.size; simpa using hi
    · obtain ⟨rfl, c, e1, rfl⟩ := z
      have e : d = .at (.str ⟨#[c]⟩) := by
        simp only [List.getElem?_map, Option.map_eq_some_iff] at hd
        obtain ⟨c', e3, e4⟩ := hd
        rw [Array.getElem?_toList, e1] at e3
        cases e3
        exact e4.symm
      subst e
      exact g.mkat⟩
theorem i_rng (hg : Gl X "range") (hm : X.mg "range" = none) (hs : noStar a = true) (ha : PE X a (liftE X.K mu we)) :
    PI X tg (.Call (.Name "range" p) [a] [] pos) (liftI X.K mu fun δ Q => we δ fun d δ1 => ∃ n, d = .at (.int n) ∧ -(2 ^ 62) ≤ n ∧ n < 2 ^ 62 ∧ Q ((List.range n.toNat).map fun (i : Nat) => D.at (.int i)) δ1) :=
  PImono (pi_range1 hg hm (pa_cons ha pa_nil (noStar_star hs)) (noStar_star hs)) fun σ H R ⟨pn, δ, Fr, S, hp, s, h, q⟩ => ⟨pn, δ, Fr, _, hp, s, h, fun d δ1 v H1 ⟨n, e, h1, h2, hr⟩ s1 => by
    subst e
    refine ⟨n, by rw [(s1.seen (v := v) List.mem_cons_self).at], h1, h2, q _ δ1 _ [] H1 hr ?_ s1.drop⟩
    refine ⟨fun H L g => ?_, fun i H L hi g => ?_, fun i H L x H' d hd g y => ?_⟩
    · show n.toNat ≤ _; simp
    · show i < n.toNat; simpa using hi
    · obtain ⟨rfl, rfl⟩ := y
      have e : d = .at (.int (0 + (i : Int))) := by
        simp only [List.getElem?_map, Option.map_eq_some_iff] at hd
        obtain ⟨j, e1, e2⟩ := hd
        have e3 := List.getElem?_eq_some_iff.mp e1
        obtain ⟨_, e4⟩ := e3
        rw [List.getElem_range] at e4
        rw [← e2, ← e4, Int.zero_add]
      subst e
      exact g.mkat⟩
theorem dw_zip {t1 t2 : Bool} {a b : Addr} {o1 o2 : Bool} {ds es : List D} {k1 k2 : Kd} (hk1 : k1 = (if t1 = true then .tup else .lst)) (hk2 : k2 = (if t2 = true then .tup else .lst)) (hf1 : frozL ds = true) (hf2 : frozL es = true) :
    DWalk K (Itz2 K t1 a t2 b) (List.zipWith (fun x y => D.nd .tup false [x, y]) ds es) [.val (.ref b) (.nd k2 o2 es), .val (.ref a) (.nd k1 o1 ds)] where
  stops := fun H L g => by
    obtain ⟨a', vs, e, s, hl, hi⟩ := src_again hk1 (g.in (v := .ref a) (d := .nd k1 o1 ds) (by simp))
    obtain ⟨b', us, e', s', hl', hi'⟩ := src_again hk2 (g.in (v := .ref b) (d := .nd k2 o2 es) (by simp))
    cases e; cases e'
    exact ⟨vs, us, s, s', by rw [List.length_zipWith, hl, hl']⟩
  goes := fun i H L hlt g => by
    obtain ⟨a', vs, e, s, hl, hi⟩ := src_again hk1 (g.in (v := .ref a) (d := .nd k1 o1 ds) (by simp))
    obtain ⟨b', us, e', s', hl', hi'⟩ := src_again hk2 (g.in (v := .ref b) (d := .nd k2 o2 es) (by simp))
    cases e; cases e'
    exact ⟨vs, us, s, s', by rw [List.length_zipWith] at hlt; rw [hl, hl']; exact hlt⟩
  yields := fun i H L x H' d hd g y => by
    obtain ⟨a', vs, e, s, hl, hi⟩ := src_again hk1 (g.in (v := .ref a) (d := .nd k1 o1 ds) (by simp))
    obtain ⟨b', us, e', s', hl', hi'⟩ := src_again hk2 (g.in (v := .ref b) (d := .nd k2 o2 es) (by simp))
    cases e; cases e'
    obtain ⟨T, u1, u2, rfl, nT, rfl, f1, f2⟩ := y
    obtain ⟨d1, d2, e1, e2, rfl⟩ : ∃ d1 d2, ds[i]? = some d1 ∧ es[i]? = some d2 ∧ d = .nd .tup false [d1, d2] := by
      rw [List.getElem?_zipWith] at hd
      cases h1 : ds[i]? with
      | none => rw [h1] at hd; cases hd
      | some d1 =>
        cases h2 : es[i]? with
        | none => rw [h1, h2] at hd; cases hd
        | some d2 => rw [h1, h2] at hd; exact ⟨d1, d2, rfl, rfl, (Option.some.inj hd).symm⟩
    obtain ⟨w1, q1, i1⟩ := hi i d1 e1
    obtain ⟨w2, q2, i2⟩ := hi' i d2 e2
    obtain rfl : w1 = u1 := by rw [f1 vs s] at q1; exact (Option.some.inj q1).symm
    obtain rfl : w2 = u2 := by rw [f2 us s'] at q2; exact (Option.some.inj q2).symm
    have g1 := i2.hold (frozL_get hf2 e2)
    have i1' : In K H (.val w2 d2 :: ([.val (.ref b) (.nd k2 o2 es), .val (.ref a) (.nd k1 o1 ds)] ++ L)) w1 d1 := by
      obtain ⟨_, _, e3, s3, _, hi3⟩ := src_again hk1 (g1.in (v := .ref a) (d := .nd k1 o1 ds) (by simp))
      cases e3
      obtain ⟨w3, q3, i3⟩ := hi3 i d1 e1
      have : vs[i]? = some w1 := f1 vs s
      obtain rfl : w3 = w1 := by
        have := f1 _ s3
        rw [q3] at this; exact Option.some.inj this
      exact i3
    have g2 := i1'.hold (frozL_get hf1 e1)
    exact Good.mktup (o := false) (vs := [w1, w2]) (ds := [d1, d2]) rfl upd_same (g2.same (same_new nT))
theorem i_zip (hg : Gl X "zip") (hm : X.mg "zip" = none) (hs1 : noStar a = true) (hs2 : noStar b = true) (ha : PE X a (liftE X.K mu we)) (hb : PE X b (liftE X.K mu we')) :
    PI X (.Tuple elts kk tpos) (.Call (.Name "zip" p) [a, b] [] pos) (liftI X.K mu fun δ Q => we δ fun x δ1 => we' δ1 fun y δ2 => seqD x fun xs => seqD y fun ys => Q (List.zipWith (fun x y => D.nd .tup false [x, y]) xs ys) δ2) :=
  PImono (pi_zip2 hg hm (pa_cons ha (pa_cons hb pa_nil (noStar_star hs2)) (noStar_star hs1)) (by rw [noStar_star hs1]) (by rw [noStar_star hs2]; rfl)) fun σ H R ⟨pn, δ, Fr, S, hp, s, h, q⟩ => ⟨pn, δ, Fr, _, hp, s, h, fun d δ1 v H1 hr s1 => ⟨pn, δ1, _, _, hp, s1, hr, fun e δ2 u H2 hr2 s2 => by
    obtain ⟨t1, a, vs, ds, rfl, src, hl, hf, ⟨k, o, rfl, hk⟩, hi, hr⟩ := seqD_src (s2.seen (v := v) (d := d) (by simp)) hr2
    obtain ⟨t2, b, us, es, rfl, src2, hl2, hf2, ⟨k2, o2, rfl, hk2⟩, hi2, hr⟩ := seqD_src (s2.seen (v := u) (d := e) (by simp)) hr
    exact ⟨t1, a, t2, b, vs, us, rfl, src, src2, q _ δ2 _ [.val (.ref b) (.nd k2 o2 es), .val (.ref a) (.nd k o ds)] H2 hr (dw_zip hk hk2 hf hf2) s2⟩⟩⟩
theorem dw_enum {t : Bool} {a : Addr} {o : Bool} {ds : List D} {k : Kd} (hk : k = (if t = true then .tup else .lst)) (hf : frozL ds = true) : DWalk K (Ite2 K t a) (ds.mapIdx fun i x => D.nd .tup false [.at (.int i), x]) [.val (.ref a) (.nd k o ds)] where
  stops := fun H L g => by
    obtain ⟨a', vs, e, s, hl, hi⟩ := src_again hk (g.in (v := .ref a) (d := .nd k o ds) (by simp))
    cases e
    exact ⟨vs, s, by simp [hl]⟩
  goes := fun i H L hlt g => by
    obtain ⟨a', vs, e, s, hl, hi⟩ := src_again hk (g.in (v := .ref a) (d := .nd k o ds) (by simp))
    cases e
    exact ⟨vs, s, by simpa [hl] using hlt⟩
  yields := fun i H L x H' d hd g y => by
    obtain ⟨a', vs, e, s, hl, hi⟩ := src_again hk (g.in (v := .ref a) (d := .nd k o ds) (by simp))
    cases e
    obtain ⟨T, u, rfl, nT, rfl, f1⟩ := y
    obtain ⟨d1, e1, rfl⟩ : ∃ d1, ds[i]? = some d1 ∧ d = .nd .tup false [.at (.int i), d1] := by
      rw [List.getElem?_mapIdx] at hd
      obtain ⟨d1, e1, e2⟩ := Option.map_eq_some_iff.mp hd
      exact ⟨d1, e1, e2.symm⟩
    obtain ⟨w1, q1, i1⟩ := hi i d1 e1
    obtain rfl : w1 = u := by rw [f1 vs s] at q1; exact (Option.some.inj q1).symm
    have g1 := i1.hold (frozL_get hf e1)
    exact Good.mktup (o := false) (vs := [.int i, w1]) (ds := [.at (.int i), d1]) rfl upd_same ((Good.mkat g1).same (same_new nT))
theorem i_enum (hg : Gl X "enumerate") (hm : X.mg "enumerate" = none) (hs : noStar a = true) (ha : PE X a (liftE X.K mu we)) :
    PI X (.Tuple elts kk tpos) (.Call (.Name "enumerate" p) [a] [] pos) (liftI X.K mu fun δ Q => we δ fun d δ1 => seqD d fun ds => Q (ds.mapIdx fun i x => D.nd .tup false [.at (.int i), x]) δ1) :=
  PImono (pi_enum2 hg hm (pa_cons ha pa_nil (noStar_star hs)) (noStar_star hs)) fun σ H R ⟨pn, δ, Fr, S, hp, s, h, q⟩ => ⟨pn, δ, Fr, _, hp, s, h, fun d δ1 v H1 hr s1 => by
    obtain ⟨t, a, vs, ds, rfl, src, hl, hf, ⟨k, o, rfl, hk⟩, hi, hr⟩ := seqD_src (s1.seen List.mem_cons_self) hr
    exact ⟨t, a, vs, rfl, src, q _ δ1 _ [.val (.ref a) (.nd k o ds)] H1 hr (dw_enum hk hf) s1⟩⟩
/-! ### stores into dicts and lists -/
theorem put_good {κ : Type} [DecidableEq κ] {H : Hp} {L : List Res} {a : Addr} {ks : List κ} {vs : List V} {ds : List D} {k : κ} {v : V} {x : D} {mk : List κ → Kd} (hm : ∀ ks, (mk ks).isTup = false) (hfit : ∀ ks (us : List V), Fit (mk ks) us ↔ ks.length = us.length ∧ ks.Nodup)
    (hl : vs.length = ds.length) (hf : ks.length = vs.length ∧ ks.Nodup) (g : Good K H (.cell a (ho (mk (putKs ks vs k v).1) (putKs ks vs k v).2) :: (vals vs ds ++ (.val v x :: L)))) :
    Good K H (.val (.ref a) (.nd (mk (putKs ks ds k x).1) true (putKs ks ds k x).2) :: L) := by
  have hl2 : (putKs ks vs k v).2.length = (putKs ks ds k x).2.length := by
    rw [← putKs_len hf.1, ← putKs_len (by rw [hf.1, hl]), putKs_fst (d := x) hf.1 hl]
  rw [← putKs_fst (v := v) hf.1 hl]
  refine Good.pack (hm _) hl2 ((hfit _ _).mpr ⟨putKs_len hf.1, putKs_nodup hf.1 hf.2⟩) ?_
  obtain ⟨A, p⟩ := putKs_vals (k := k) (v := v) (d := x) hf.1 hl
  have e : (vals vs ds ++ (Res.val v x :: L)) = (vals vs ds ++ [Res.val v x]) ++ L := by simp
  rw [e] at g
  have g2 := g.perm (List.Perm.cons _ (p.append_right L))
  refine g2.sub (List.Sublist.cons_cons _ ?_)
  rw [List.append_assoc]
  exact List.sublist_append_right _ _
theorem dput_good {H : Hp} {L : List Res} {w y v : V} {dd ky x : D} {R : D → Prop} (g : Good K H (.val w dd :: .val y ky :: .val v x :: L)) (h : dput dd ky x R) : ∃ a H' d', w = .ref a ∧ DPut H a y v H' ∧ R d' ∧ Good K H' (.val w d' :: L) := by
  have iy : In K H (.val w dd :: .val y ky :: .val v x :: L) y ky := g.in (by simp)
  match dd, h with
  | .nd (.dK ks) true ds, ⟨hz, k, e1, h⟩ =>
    have ey := Dkey_ok e1 iy
    subst ey
    obtain ⟨a, vs, rfl, hl, hf, hH, g1⟩ := g.unpack rfl
    refine ⟨a, _, _, rfl, .inl ⟨_, k, hH, rfl, ?_, rfl⟩, h, ?_⟩
    · rw [List.length_zip, hf.1, Nat.min_self, hl]; exact hz
    · have g2 : Good K H (.cell a (ho (.dK ks) vs) :: (vals vs ds ++ (.val v x :: L))) := g1.sub (List.Sublist.cons_cons _ ((List.Sublist.refl _).append (List.sublist_cons_self _ _)))
      rw [putK_zip hf.1 hf.2]
      exact put_good (mk := .dK) (fun _ => rfl) (fun _ _ => Iff.rfl) hl hf (g2.write (o' := ho (.dK (putKs ks vs k v).1) (putKs ks vs k v).2) trivial)
  | .nd (.dT ks) true ds, h =>
    match ky, h with
    | .nd .tup false xs, ⟨hz, k, e1, h⟩ =>
      obtain ⟨b, us, rfl, hl2, rd2, hi2⟩ := iy.tupAt
      have ey := DkeyL_ok e1 hl2 hi2
      subst ey
      obtain ⟨a, vs, rfl, hl, hf, hH, g1⟩ := g.unpack rfl
      refine ⟨a, _, _, rfl, .inr ⟨_, k, b, hH, rfl, rd2, ?_, rfl⟩, h, ?_⟩
      · rw [List.length_zip, hf.1, Nat.min_self, hl]; exact hz
      · have g2 : Good K H (.cell a (ho (.dT ks) vs) :: (vals vs ds ++ (.val v x :: L))) := g1.sub (List.Sublist.cons_cons _ ((List.Sublist.refl _).append (List.sublist_cons_self _ _)))
        rw [putK_zip hf.1 hf.2]
        exact put_good (mk := .dT) (fun _ => rfl) (fun _ _ => Iff.rfl) hl hf (g2.write (o' := ho (.dT (putKs ks vs k v).1) (putKs ks vs k v).2) trivial)
theorem s_dput {i : Nat} {x : Str} {p pos' : Pos} (hu : X.A.units + 1 < cLine) (hN : X.N[i]? = some x) (hv : Vis X.env.scope x) (hdb : (x == ("__debug__" : Str)) = false) (hcd : (x == ("__classdict__" : Str)) = false)
    (hk : PE X a (liftE X.K mu we')) (he : PE X ex (liftE X.K mu we)) (hs : swapsWith ex (some (.Subscript (.Name x p) a pos')) pos.line X.env = pure false) :
    PS X (.Assign [.Subscript (.Name x p) a pos'] ex pos) (liftS X.K mu X.mg W fun δ Q => we δ fun x δ1 => (∃ d0, δ1[i]? = some (some d0)) ∧ we' δ1 fun y δ2 => ∃ d, δ2[i]? = some (some d) ∧ dput d y x fun d' => Q (.nx (δ2.set i (some d')))) :=
  PSmono (ps_dput hu (pe_var hN hv hdb hcd) hk he hs) fun Dn σ H ⟨pn, δ, Fr, R, hp, s, h, q, _⟩ => ⟨pn, δ, Fr, _, hp, s, h, fun x δ1 v H1 ⟨⟨d0, e0⟩, hr⟩ s1 => by
    obtain ⟨w, ew⟩ := s1.ok i d0 e0
    refine ⟨w, ew, pn, δ1, _, _, hp, s1, hr, fun ky δ2 y H2 ⟨dd, e2, hr2⟩ s2 => ?_⟩
    obtain ⟨w', e3, s3⟩ := s2.out e2
    obtain rfl : w' = w := by rw [ew] at e3; exact (Option.some.inj (Option.some.inj e3)).symm
    obtain ⟨a', H3, d', ea, dp, hR, g⟩ := dput_good (L := Fr ++ envR σ (δ2.set i none)) (Sim.front2 (A := [_, _, _]) s3) hr2
    have s4 := Sim.back (s3.ofc g) e3
    rw [List.set_set] at s4
    exact ⟨a', H3, ea, dp, q _ σ H3 hR s4⟩⟩
/-! ### a list at a path -/
/-- jar, jar[0], jar[0][1] .. with written places -/
def tPath (K : PySem.W.Frag) (i : Nat) (π : List Int) : TE := fun σ H Q => ∃ v w, σ[i]? = some (some v) ∧ PathV K H v π w ∧ Q w H
theorem p_path0 {i : Nat} {x : Str} (hN : X.N[i]? = some x) (hv : Vis X.env.scope x) (hdb : (x == ("__debug__" : Str)) = false) (hcd : (x == ("__classdict__" : Str)) = false) : PE X (.Name x pos) (tPath X.K i []) :=
  PEmono (pe_var hN hv hdb hcd) fun σ H Q ⟨v, w, e, e2, q⟩ => ⟨v, e, by rw [(show v = w from e2)]; exact q⟩
theorem p_path1 {i : Nat} {π : List Int} {c : Int} (ha : PE X a (tPath X.K i π)) (hb : PE X b (tC (.int c))) (hs : PlainIx b) : PE X (.Subscript a b pos) (tPath X.K i (π ++ [c])) :=
  PEmono (pe_ix ix_list ha hb hs) fun σ H Q ⟨v, w, e, e2, q⟩ => by
    obtain ⟨u, p, xs, pv, eu, sq, at1⟩ := pathV_snoc e2
    exact ⟨v, u, e, pv, p, xs, c, w, eu, rfl, sq, at1, q⟩
theorem s_setIx {i : Nat} {π : List Int} {o : Expr} {pos' : Pos} (hpo : PE X o (tPath X.K i π)) (hk : PE X a (liftP X.K mu wp)) (he : PE X ex (liftE X.K mu we)) (hs : swapsWith ex (some (.Subscript o a pos')) pos.line X.env = pure false)
    (hw : swappedStores [.Subscript o a pos'] ex X.env = pure none) (h1 : (assignEach [.Subscript o a pos'] X.env).map (·.2) = [assign (.Subscript o a pos') X.env])
    (ha : ∀ v, assign (.Subscript o a pos') X.env v = (do
      let ov ← holding [v] (eval o X.env)
      let iv ← holding [v, ov] (eval a X.env)
      standAt pos'
      holding [v, ov, iv] (setItem ov iv v)
      release [v, ov, iv] [])) :
    PS X (.Assign [.Subscript o a pos'] ex pos) (liftS X.K mu X.mg W fun δ Q => we δ fun x δ1 => ∃ d xs, δ1[i]? = some (some d) ∧ lstAt π d = some xs ∧ wp δ1 fun y => ∃ n j, y = .at (.int n) ∧ ixN xs.length n = some j ∧ Q (.nx (δ1.set i (some (putAt π d (xs.set j x)))))) :=
  PSmono (ps_asg he (pg_sub hpo hk set_list ha) hs hw h1) fun Dn σ H ⟨pn, δ, Fr, R, hp, s, h, q, _⟩ => ⟨pn, δ, Fr, _, hp, s, h, fun x δ1 v H1 ⟨d, xs, e, hl, hr⟩ s1 => by
    obtain ⟨w, ew, s2⟩ := s1.out e
    obtain ⟨u, Rr, pv, g, back⟩ := foc π d xs w H1 (.val v x :: (Fr ++ envR σ (δ1.set i none))) hl (Sim.front2 (A := [_, _]) s2)
    refine ⟨w, u, ew, pv, pn, δ1, .val v x :: Fr, _, hp, s1, hr, fun y vy ⟨n, j, ey, ej, hR⟩ iy => ?_⟩
    subst ey
    obtain ⟨p, us, rfl, hlen, hf, hH, g1⟩ := g.unpack rfl
    refine ⟨p, us, n, j, rfl, iy.at, hH, by rw [hlen]; exact ej, ?_⟩
    have hj : j < xs.length := by
      unfold ixN at ej
      split at ej
      · split at ej
        · cases ej; omega
        · cases ej
      · split at ej
        · cases ej; omega
        · cases ej
    obtain ⟨uj, e3⟩ : ∃ uj, us[j]? = some uj := ⟨us[j], List.getElem?_eq_getElem (by rw [hlen]; exact hj)⟩
    obtain ⟨dj, e4⟩ : ∃ dj, xs[j]? = some dj := ⟨xs[j], List.getElem?_eq_getElem hj⟩
    have g2 := g1.write (o' := ho .lst (us.set j v)) trivial
    have e5 : (us.set j v).eraseIdx j = us.eraseIdx j := eraseIdx_set_self
    have g3 : Good X.K (upd H1 p (ho .lst (us.set j v))) (.cell p (ho .lst (us.set j v)) :: (vals (us.set j v) (xs.set j x) ++ (Rr ++ (Fr ++ envR σ (δ1.set i none))))) := by
      have q1 := vals_take (vs := us) (ds := xs) e3 e4
      have q2 := vals_put (vs := us.set j v) (ds := xs) (e := x) (List.getElem?_set_self (by rw [hlen]; exact hj)) e4
      rw [e5] at q2
      have q3 : (vals us xs ++ (Rr ++ (.val v x :: (Fr ++ envR σ (δ1.set i none))))).Perm (.val uj dj :: (vals (us.set j v) (xs.set j x) ++ (Rr ++ (Fr ++ envR σ (δ1.set i none))))) := by
        refine (q1.append_right _).trans ?_
        refine List.Perm.cons _ ?_
        refine .trans ?_ (q2.symm.append_right _)
        show (vals (us.eraseIdx j) (xs.eraseIdx j) ++ (Rr ++ (.val v x :: (Fr ++ envR σ (δ1.set i none))))).Perm (.val v x :: (vals (us.eraseIdx j) (xs.eraseIdx j) ++ (Rr ++ (Fr ++ envR σ (δ1.set i none)))))
        rw [← List.append_assoc, ← List.append_assoc]
        exact List.perm_middle
      exact (g2.perm (List.Perm.cons _ q3)).sub (List.Sublist.cons_cons _ (List.sublist_cons_self _ _))
    have g4 := back _ _ _ (Good.pack (k := .lst) (vs := us.set j v) rfl (by simp [hlen]) trivial g3)
    have s4 := Sim.back (s2.ofc g4) ew
    rw [List.set_set] at s4
    exact q _ σ _ hR s4⟩
theorem e_mthN {name : Str} {id : String} {r : V → List V → Hp → VK → Prop} {m : M} {i : Nat} {π : List Int} {c : Int} {o cx : Expr} {apos cpos : Pos} (pa : PlainAttrs "list") (slot : Slot "list" name id) (hty : typeOf (.builtin id) = pure (.type "method_descriptor")) (hm : MtR X id r) (hd : DoesM X r m)
    (hpo : PE X o (tPath X.K i π)) (hc : PE X cx (tC (.int c))) (hsx : noStar cx = true) (hb : attributeBase o name X.env (eval o X.env) = eval o X.env)
    (hfew : ((backTo cpos (starEach [cx] X.env)).all (fun x => !x.1) && (backToKw cpos (keywordEach [] X.env)).all (fun x => x.1.isSome)
      && decide (([cx] : List Expr).length + ([] : List Keyword).length + (if ([] : List Keyword).isEmpty then 0 else 1) < 30)) = true)
    (hline : (apos.endLine == cpos.line) = true) :
    PE X (.Call (.Attribute o name apos) [cx] [] cpos) (liftE X.K mu fun δ Q => ∃ d xs, δ[i]? = some (some d) ∧ lstAt π d = some xs ∧ evM m xs [.at (.int c)] fun xs' r => Q r (δ.set i (some (putAt π d xs')))) := by
  refine PEmono (pe_bm pa slot hty hm hpo (pa_cons hc pa_nil (noStar_star hsx)) hb hfew hline (noStar_star hsx) rfl) fun σ H Q ⟨pn, δ, Fr, R, hp, s, ⟨d, xs, e, hl, hr⟩, q⟩ => ?_
  obtain ⟨w, ew, s2⟩ := s.out e
  obtain ⟨u, Rr, pv, g, back⟩ := foc π d xs w H (Fr ++ envR σ (δ.set i none)) hl (Sim.front2 (A := [_]) s2)
  obtain ⟨p, us, rfl, hlen, hf, hH, _⟩ := g.unpack rfl
  refine ⟨w, _, ew, pv, .inl ⟨rfl, us, .of hH⟩, ?_⟩
  refine hd (.ref p) xs [.at (.int c)] [.int c] H (Rr ++ (Fr ++ envR σ (δ.set i none))) _ Q rfl ((Good.mkat g).perm (.swap ..)) hr fun H' x ds' rr hR g' => ?_
  have g4 := back ds' H' (.val x rr :: (Fr ++ envR σ (δ.set i none))) (g'.perm (by
    refine (List.Perm.swap _ _ _).trans (List.Perm.cons _ ?_)
    exact List.perm_middle.symm))
  have s4 : Sim X.K pn σ (δ.set i none) (.val w (putAt π d ds') :: .val x rr :: Fr) H' := s2.ofc (Fr := .val x rr :: Fr) g4
  have s5 := s4.back ew
  rw [List.set_set] at s5
  exact q rr _ x H' hR s5
theorem e_mthN0 {name : Str} {id : String} {r : V → List V → Hp → VK → Prop} {m : M} {i : Nat} {π : List Int} {o : Expr} {apos cpos : Pos} (pa : PlainAttrs "list") (slot : Slot "list" name id) (hty : typeOf (.builtin id) = pure (.type "method_descriptor")) (hm : MtR X id r) (hd : DoesM X r m)
    (hpo : PE X o (tPath X.K i π)) (hb : attributeBase o name X.env (eval o X.env) = eval o X.env) (hline : (apos.endLine == cpos.line) = true) :
    PE X (.Call (.Attribute o name apos) [] [] cpos) (liftE X.K mu fun δ Q => ∃ d xs, δ[i]? = some (some d) ∧ lstAt π d = some xs ∧ evM m xs [] fun xs' r => Q r (δ.set i (some (putAt π d xs')))) := by
  refine PEmono (pe_bm0 pa slot hty hm hpo hb hline) fun σ H Q ⟨pn, δ, Fr, R, hp, s, ⟨d, xs, e, hl, hr⟩, q⟩ => ?_
  obtain ⟨w, ew, s2⟩ := s.out e
  obtain ⟨u, Rr, pv, g, back⟩ := foc π d xs w H (Fr ++ envR σ (δ.set i none)) hl (Sim.front2 (A := [_]) s2)
  obtain ⟨p, us, rfl, hlen, hf, hH, _⟩ := g.unpack rfl
  refine ⟨w, _, ew, pv, .inl ⟨rfl, us, .of hH⟩, ?_⟩
  refine hd (.ref p) xs [] [] H (Rr ++ (Fr ++ envR σ (δ.set i none))) _ Q rfl g hr fun H' x ds' rr hR g' => ?_
  have g4 := back ds' H' (.val x rr :: (Fr ++ envR σ (δ.set i none))) (g'.perm (by
    refine (List.Perm.swap _ _ _).trans (List.Perm.cons _ ?_)
    exact List.perm_middle.symm))
  have s4 : Sim X.K pn σ (δ.set i none) (.val w (putAt π d ds') :: .val x rr :: Fr) H' := s2.ofc (Fr := .val x rr :: Fr) g4
  have s5 := s4.back ew
  rw [List.set_set] at s5
  exact q rr _ x H' hR s5
end
end Z
set_option Elab.async false
set_option linter.all false
set_option maxRecDepth 100000
set_option autoImplicit false
namespace Z
open PySem PySem.Spec PyProof.Rows L2
/-! ## comprehensions -/
theorem wipe_get {σ : L2.St} {i : Nat} : ∀ {vs : List Nat}, (wipe σ vs)[i]? = if i ∈ vs then (σ[i]?).map (fun _ => none) else σ[i]?
  | [] => by simp [wipe]
  | v :: vs => by
    unfold wipe
    by_cases e : v = i
    · subst e
      rw [List.getElem?_set, if_pos rfl, if_pos List.mem_cons_self, wipe_length]
      by_cases hl : v < σ.length
      · rw [if_pos hl, List.getElem?_eq_getElem hl]; rfl
      · rw [if_neg hl, List.getElem?_eq_none (by omega)]; rfl
    · rw [List.getElem?_set_ne e, wipe_get (vs := vs)]
      by_cases h : i ∈ vs
      · rw [if_pos h, if_pos (List.mem_cons_of_mem _ h)]
      · rw [if_neg h, if_neg (by simp only [List.mem_cons, not_or]; exact ⟨fun z => e z.symm, h⟩)]
theorem wipe_same {σ σ2 : L2.St} {vs : List Nat} (hl : σ2.length = σ.length) (h : ∀ i, i ∉ vs → σ2[i]? = (wipe σ vs)[i]?) : wipe σ2 vs = wipe σ vs := by
  apply List.ext_getElem?
  intro i
  rw [wipe_get, wipe_get]
  by_cases hi : i ∈ vs
  · rw [if_pos hi, if_pos hi]
    by_cases hlt : i < σ.length
    · rw [List.getElem?_eq_getElem hlt, List.getElem?_eq_getElem (by omega)]; rfl
    · rw [List.getElem?_eq_none (by omega), List.getElem?_eq_none (by omega)]
  · rw [if_neg hi, if_neg hi, h i hi, wipe_get, if_neg hi]
/-- slots without value -/
def Emp (δ : Env) (is : List Nat) : Prop := ∀ i ∈ is, ∀ d, δ[i]? ≠ some (some d)
theorem set_none_get {δ : Env} {i j : Nat} {d : D} (h : (δ.set j none)[i]? = some (some d)) : i ≠ j ∧ δ[i]? = some (some d) := by
  by_cases e : j = i
  · subst e
    by_cases hl : j < δ.length
    · rw [List.getElem?_set_self hl] at h; cases h
    · rw [List.getElem?_eq_none (by simpa using hl)] at h; cases h
  · rw [List.getElem?_set_ne e] at h
    exact ⟨fun z => e z.symm, h⟩
theorem emp_wipe {δ : Env} : ∀ {is : List Nat}, Emp (wipeD δ is) is
  | [], i, h, _, _ => by simp at h
  | j :: is, i, h, d, e => by
    have e : ((wipeD δ is).set j none)[i]? = some (some d) := e
    obtain ⟨hne, e2⟩ := set_none_get e
    rcases List.mem_cons.mp h with h | h
    · exact hne h
    · exact emp_wipe (is := is) i h d e2
theorem wipeD_get {δ : Env} {i : Nat} {d : D} : ∀ {is : List Nat}, (wipeD δ is)[i]? = some (some d) → i ∉ is ∧ δ[i]? = some (some d)
  | [], h => ⟨by simp, h⟩
  | j :: is, h => by
    obtain ⟨hne, e2⟩ := set_none_get (show ((wipeD δ is).set j none)[i]? = some (some d) from h)
    obtain ⟨h1, h2⟩ := wipeD_get e2
    exact ⟨by simp only [List.mem_cons, not_or]; exact ⟨hne, h1⟩, h2⟩
theorem wipeD_len {δ : Env} : ∀ {is : List Nat}, (wipeD δ is).length = δ.length
  | [] => rfl
  | j :: is => by show ((wipeD δ is).set j none).length = _; rw [List.length_set, wipeD_len]
theorem envR_emp1 : ∀ {σ : L2.St} {δ : Env} {i : Nat}, (∀ d, δ[i]? ≠ some (some d)) → envR (σ.set i none) δ = envR σ δ
  | [], _, _, _ => rfl
  | _ :: _, [], _, _ => by rw [envR_nil, envR_nil]
  | v :: σ, e :: δ, 0, h => by
    cases e with
    | none => rw [List.set_cons_zero, envR_none, envR_none]
    | some d => exact absurd rfl (h d)
  | v :: σ, e :: δ, i + 1, h => by
    have ih := envR_emp1 (σ := σ) (δ := δ) (i := i) fun d => by simpa using h d
    rw [List.set_cons_succ]
    cases v with
    | none => rw [envR_none', envR_none', ih]
    | some v =>
      cases e with
      | none => rw [envR_none, envR_none, ih]
      | some d => show _ :: _ = _ :: _; rw [ih]
theorem envR_emp {σ : L2.St} {δ : Env} : ∀ {is : List Nat}, Emp δ is → envR (wipe σ is) δ = envR σ δ
  | [], _ => rfl
  | i :: is, h => by
    unfold wipe
    rw [envR_emp1 (h i List.mem_cons_self), envR_emp fun j hj => h j (List.mem_cons_of_mem _ hj)]
section
variable {K : PySem.W.Frag} {pn : List (Nat × V)} {σ : L2.St} {δ δ2 : Env} {Fr Fr' : List Res} {H H' : Hp} {v : V} {d : D} {mu own : List Nat}
/-- the state within: the block's own slots are empty -/
theorem Sim.inw (s : Sim K pn σ δ Fr H) (h : Emp δ own) (hp : ∀ p ∈ pn, p.1 ∉ own) : Sim K pn (wipe σ own) δ Fr H := by
  refine ⟨by rw [wipe_length]; exact s.len, fun i d e => ?_, fun p hm => ?_, by rw [envR_emp h]; exact s.good⟩
  · rw [wipe_get, if_neg (fun hi => h i hi d e)]; exact s.ok i d e
  · rw [wipe_get, if_neg (hp p hm)]; exact s.pin p hm
theorem Sim.outw (s : Sim K pn (wipe σ own) δ Fr H) (h : Emp δ own) : Sim K pn σ δ Fr H := by
  refine ⟨by rw [← wipe_length σ own]; exact s.len, fun i d e => ?_, fun p hm => ?_, by rw [← envR_emp h]; exact s.good⟩
  · have q := s.ok i d e
    rw [wipe_get, if_neg (fun hi => h i hi d e)] at q; exact q
  · exact (wipe_some (s.pin p hm)).1
theorem Sim.wipeD (s : Sim K pn σ δ Fr H) : ∀ {own : List Nat}, Sim K pn σ (Z.wipeD δ own) Fr H
  | [] => s
  | i :: own => (Sim.wipeD s (own := own)).lose i
theorem pn_own (h : Pn mu pn) (ho : ∀ i ∈ own, i ∉ mu) : ∀ p ∈ pn, p.1 ∉ own := fun p hm hi => ho _ hi (h p hm)
theorem unwipe_len : ∀ {own : List Nat}, (unwipe δ δ2 own).length = δ2.length
  | [] => rfl
  | i :: own => by show ((unwipe δ δ2 own).set i _).length = _; rw [List.length_set, unwipe_len]
theorem set_same {δ : Env} {i : Nat} {x : Option D} (h : i < δ.length → δ[i]? = some x) : δ.set i x = δ := by
  apply List.ext_getElem?
  intro j
  by_cases e : i = j
  · subst e
    by_cases hl : i < δ.length
    · rw [List.getElem?_set_self hl, h hl]
    · rw [List.getElem?_eq_none (by simpa using hl), List.getElem?_eq_none (by omega)]
  · rw [List.getElem?_set_ne e]
theorem unwipe_get {i : Nat} : ∀ {own : List Nat}, i ∈ own → i < δ2.length → (unwipe δ δ2 own)[i]? = some (δ.getD i none)
  | [], h, _ => by simp at h
  | j :: own, h, hl => by
    show ((unwipe δ δ2 own).set j (δ.getD j none))[i]? = _
    by_cases e : j = i
    · subst e; rw [List.getElem?_set_self (by rw [unwipe_len]; exact hl)]
    · rw [List.getElem?_set_ne e]
      rcases List.mem_cons.mp h with h | h
      · exact absurd h.symm e
      · exact unwipe_get h hl
/-- the own slots' values are laid aside, and come back -/
theorem Sim.aside (s : Sim K pn σ δ Fr H) : ∀ {own : List Nat}, ∃ Ro, Sim K pn σ (Z.wipeD δ own) (Ro ++ Fr) H ∧ ∀ δ2 Fr' H', Sim K pn σ δ2 (Ro ++ Fr') H' → Sim K pn σ (unwipe δ δ2 own) Fr' H'
  | [] => ⟨[], s, fun _ _ _ s => s⟩
  | i :: own => by
    obtain ⟨Ro, s1, h1⟩ := Sim.aside s (own := own)
    match he : (Z.wipeD δ own)[i]? with
    | some (some d) =>
      obtain ⟨v, e, s2⟩ := s1.out he
      refine ⟨.val v d :: Ro, s2, fun δ2 Fr' H' s3 => ?_⟩
      have s4 := (h1 δ2 (.val v d :: Fr') H' (s3.perm List.perm_middle.symm)).back e
      have e2 : δ.getD i none = some d := by rw [List.getD_eq_getElem?_getD, (wipeD_get he).2]; rfl
      show Sim K pn σ ((unwipe δ δ2 own).set i (δ.getD i none)) Fr' H'
      rw [e2]; exact s4
    | none =>
      refine ⟨Ro, s1.lose i, fun δ2 Fr' H' s3 => ?_⟩
      have s4 := h1 δ2 Fr' H' s3
      show Sim K pn σ ((unwipe δ δ2 own).set i (δ.getD i none)) Fr' H'
      have hl : δ.length ≤ i := by rw [← wipeD_len (is := own)]; exact List.getElem?_eq_none_iff.mp he
      rw [List.set_eq_of_length_le (by rw [← s4.len, s.len]; exact hl)]; exact s4
    | some none =>
      refine ⟨Ro, s1.lose i, fun δ2 Fr' H' s3 => ?_⟩
      have s4 := h1 δ2 Fr' H' s3
      show Sim K pn σ ((unwipe δ δ2 own).set i (δ.getD i none)) Fr' H'
      by_cases hi : i ∈ own
      · rw [set_same fun hl => unwipe_get hi (by rw [← unwipe_len (δ := δ) (own := own)]; exact hl)]; exact s4
      · have e2 : δ.getD i none = none := by
          rw [List.getD_eq_getElem?_getD]
          match h : δ[i]? with
          | none => rfl
          | some none => rfl
          | some (some d) =>
            have : ∀ {own : List Nat}, i ∉ own → (Z.wipeD δ own)[i]? = δ[i]? := fun {own} => by
              induction own with
              | nil => intro _; rfl
              | cons j own ih =>
                intro hj
                simp only [List.mem_cons, not_or] at hj
                show ((Z.wipeD δ own).set j none)[i]? = _
                rw [List.getElem?_set_ne (fun z => hj.1 z.symm)]
                exact ih hj.2
            rw [this hi, h] at he; cases he
        rw [e2]; exact s4.lose i
end
theorem Good.cellAt {K : PySem.W.Frag} {H : Hp} {a : Addr} {o : HO} {L : List Res} (g : Good K H (.cell a o :: L)) : H a = some o := by
  obtain ⟨_, _, h, _⟩ := g
  cases h with
  | cons h _ => cases h with
    | cell h => exact h
section
variable {X : Cx} {mu own ns : List Nat} {wi : WEs} {g : WG} {t : WT} {e : WE}
theorem vals_snoc {vs : List V} {ds : List D} {v : V} {d : D} (hl : vs.length = ds.length) : vals (vs ++ [v]) (ds ++ [d]) = vals vs ds ++ [.val v d] := vals_app hl
/-- as DWalk, for what is seen through the slots -/
structure DWalkE (K : PySem.W.Frag) (σ : L2.St) (J : L2.It) (ds : List D) (ok : Env → Prop) (L0 : List Res) : Prop where
  stops : ∀ pn δ Fr H, Sim K pn σ δ (L0 ++ Fr) H → ok δ → J.stop ds.length H
  goes : ∀ pn δ Fr H i, i < ds.length → Sim K pn σ δ (L0 ++ Fr) H → ok δ → J.go i H
  yields : ∀ pn δ Fr H i x H' d, ds[i]? = some d → Sim K pn σ δ (L0 ++ Fr) H → ok δ → J.yld i H x H' → Sim K pn σ δ (.val x d :: (L0 ++ Fr)) H'
theorem DWalk.toE {K : PySem.W.Frag} {σ : L2.St} {J : L2.It} {ds : List D} {L0 : List Res} (dw : DWalk K J ds L0) : DWalkE K σ J ds (fun _ => True) L0 where
  stops := fun pn δ Fr H s _ => dw.stops H _ s.front2
  goes := fun pn δ Fr H i hi s _ => dw.goes i H _ hi s.front2
  yields := fun pn δ Fr H i x H' d hd s _ y => s.ofc (by have g := dw.yields i H _ x H' d hd s.front2 y; simpa [List.append_assoc] using g)
/-- the loop of a comprehension, from the walk on -/
theorem lc_loop {K : PySem.W.Frag} {σ : L2.St} {pn : List (Nat × V)} {δ1 : Env} {L0 Fr : List Res} {J : L2.It} {ds : List D} {H1 : Hp} {A : Addr} {Q : VK} {R : List D → Env → Prop} {ok : Env → Prop} {F : List D → Env → List D → Prop}
    (hp : Pn mu pn) (ho : ∀ i ∈ own, i ∉ mu) (hns : ∀ i ∈ ns, i ∈ own) (dw : DWalkE K (wipe σ own) J ds ok L0) (hA : H1 A = none) (s1 : Sim K pn σ (wipeD δ1 own) (L0 ++ Fr) H1) (hr : F ds (wipeD δ1 own) [])
    (f1 : ∀ d ds δ acc, F (d :: ds) δ acc → ok δ ∧ compB own g t e d δ fun r δ1 => match r with
      | some x => acc.length < sizeLine ∧ F ds δ1 (acc ++ [x])
      | none => F ds δ1 acc)
    (f0 : ∀ δ acc, F [] δ acc → ok δ ∧ R acc δ)
    (q : ∀ acc δ2 H2, R acc δ2 → ok δ2 → Sim K pn σ δ2 (.val (.ref A) (.nd .lst true acc) :: (L0 ++ Fr)) H2 → Q (.ref A) H2) :
    ∃ W : Nat → Nat → Hp → Prop, (∃ m, W 0 m (upd H1 A (.lst []))) ∧ ∀ i m H, W i m H →
      (J.stop i H ∧ Q (.ref A) H) ∨ (J.go i H ∧ ∃ Nx : Hp → Prop, (∀ H', Nx H' → ∃ m', m' < m ∧ W (i + 1) m' H') ∧ ∀ x H', J.yld i H x H' → liftG K mu ns g x (wipe σ own) H' fun σ2 H2 => wipe σ2 own = wipe σ own ∧ liftT K mu t σ2 H2 fun b H3 =>
        if b = true then liftE K mu e σ2 H3 fun y H4 => ∃ acc, H4 A = some (.lst acc) ∧ acc.length < sizeLine ∧ Nx (upd H4 A (.lst (acc ++ [y]))) else Nx H3) := by
  have hpo := pn_own hp ho
  refine ⟨fun i m H => i + m = ds.length ∧ ∃ δ acc vs, Emp δ own ∧ vs.length = acc.length ∧ Sim K pn (wipe σ own) δ (L0 ++ (.cell A (.lst vs) :: (vals vs acc ++ Fr))) H ∧ F (ds.drop i) δ acc, ?_, ?_⟩
  · refine ⟨ds.length, by omega, wipeD δ1 own, [], [], emp_wipe, rfl, ?_, hr⟩
    have s2 := s1.inw emp_wipe hpo
    have g2 := s2.front.alloc (o := .lst []) hA trivial
    have s3 : Sim K pn (wipe σ own) (wipeD δ1 own) (.cell A (.lst []) :: (L0 ++ Fr)) (upd H1 A (.lst [])) := s2.ofc g2
    exact s3.perm (List.perm_middle.symm)
  · intro i m H ⟨him, δ, acc, vs, he, hl, s, h⟩
    by_cases hlt : i < ds.length
    · rw [List.drop_eq_getElem_cons hlt] at h
      obtain ⟨hok, h⟩ := f1 _ _ _ _ h
      refine .inr ⟨dw.goes _ _ _ _ i hlt s hok, fun H' => ∃ δ acc vs, Emp δ own ∧ vs.length = acc.length ∧ Sim K pn (wipe σ own) δ (L0 ++ (.cell A (.lst vs) :: (vals vs acc ++ Fr))) H' ∧ F (ds.drop (i + 1)) δ acc, fun H' hn => ⟨m - 1, by omega, by omega, hn⟩, fun x H' hy => ?_⟩
      have s2 := dw.yields _ _ _ _ i x H' ds[i] (List.getElem?_eq_getElem hlt) s hok hy
      refine ⟨pn, ds[i], δ, _, _, hp, s2, h, fun σ2 δ2 hr2 hq s3 => ?_⟩
      have hw : wipe σ2 own = wipe σ own := wipe_same (hq.1.trans (wipe_length _ _)) (fun i hi => hq.2 i (fun z => hi (hns i z)))
      refine ⟨hw, pn, δ2, _, _, hp, s3, hr2, fun c δ3 H3 hr3 s4 => ?_⟩
      cases c with
      | false =>
        simp only [Bool.false_eq_true, if_false] at hr3 ⊢
        refine ⟨wipeD δ3 own, acc, vs, emp_wipe, hl, ?_, hr3⟩
        rw [← hw]
        exact s4.wipeD.inw emp_wipe hpo
      | true =>
        simp only [if_true] at hr3 ⊢
        refine ⟨pn, δ3, _, _, hp, s4, hr3, fun y δ4 v H4 hr4 s5 => ?_⟩
        have s6 : Sim K pn σ2 δ4 (.cell A (.lst vs) :: (vals vs acc ++ (.val v y :: (L0 ++ Fr)))) H4 := s5.perm (by
          refine .trans (List.perm_middle (l₁ := (.val v y :: L0)) (a := Res.cell A (.lst vs)) (l₂ := vals vs acc ++ Fr)) (List.Perm.cons _ ?_)
          show (Res.val v y :: (L0 ++ (vals vs acc ++ Fr))).Perm _
          refine .trans (List.Perm.cons _ ?_) (List.perm_middle.symm)
          rw [← List.append_assoc, ← List.append_assoc]
          exact List.perm_append_comm.append_right _)
        have hc : H4 A = some (.lst vs) := Good.cellAt s6.front
        refine ⟨vs, hc, by rw [hl]; exact hr4.1, wipeD δ4 own, acc ++ [y], vs ++ [v], emp_wipe, by simp [hl], ?_, hr4.2⟩
        rw [← hw]
        refine Sim.inw (Sim.wipeD ?_) emp_wipe hpo
        have g7 := s6.front.write (o' := .lst (vs ++ [v])) trivial
        have s7 : Sim K pn σ2 δ4 (.cell A (.lst (vs ++ [v])) :: (vals vs acc ++ (.val v y :: (L0 ++ Fr)))) (upd H4 A (.lst (vs ++ [v]))) := s6.ofc g7
        refine s7.perm ?_
        rw [vals_snoc hl]
        refine .trans (List.Perm.cons _ ?_) (List.perm_middle (l₁ := L0) (a := Res.cell A (.lst (vs ++ [v])))).symm
        rw [show vals vs acc ++ (Res.val v y :: (L0 ++ Fr)) = (vals vs acc ++ [.val v y]) ++ (L0 ++ Fr) by simp]
        rw [← List.append_assoc, ← List.append_assoc]
        exact List.perm_append_comm.append_right _
    · have e0 : i = ds.length := by omega
      subst e0
      rw [List.drop_length] at h
      obtain ⟨hok, h⟩ := f0 _ _ h
      refine .inl ⟨dw.stops _ _ _ _ s hok, q acc δ H h hok ?_⟩
      have s2 := s.outw he
      have s3 : Sim K pn σ δ (.cell A (.lst vs) :: (vals vs acc ++ (L0 ++ Fr))) H := s2.perm (by
        refine .trans List.perm_middle (List.Perm.cons _ ?_)
        rw [← List.append_assoc, ← List.append_assoc]
        exact List.perm_append_comm.append_right _)
      exact s3.ofc (Good.pack (k := .lst) rfl hl trivial (by have z := s3.front; simp only [List.append_assoc, List.cons_append] at z ⊢; exact z))
/-- what a comprehension computes, by value -/
def compW (own : List Nat) (wi : WEs) (g : WG) (t : WT) (e : WE) : WE := fun δ Q => wi δ fun ds δ1 => forC (compB own g t e) ds (wipeD δ1 own) [] fun acc δ2 => Q (.nd .lst true acc) (unwipe δ1 δ2 own)
theorem comp_ok {K : PySem.W.Frag} (ho : ∀ i ∈ own, i ∉ mu) (hns : ∀ i ∈ ns, i ∈ own) {σ : L2.St} {H : Hp} {Q : VK} (h : liftE K mu (compW own wi g t e) σ H Q) : tLc (liftI K mu wi) (liftG K mu ns g) (liftT K mu t) (liftE K mu e) own σ H Q := by
  obtain ⟨pn, δ, Fr, R, hp, s, h, q⟩ := h
  refine ⟨pn, δ, Fr, _, hp, s, h, fun ds δ1 J L0 H1 hr dw s1 A hA => ?_⟩
  obtain ⟨Ro, s2, back⟩ := s1.aside (own := own)
  have s3 : Sim K pn σ (wipeD δ1 own) (L0 ++ (Ro ++ Fr)) H1 := s2.perm (by
    rw [← List.append_assoc, ← List.append_assoc]
    exact List.perm_append_comm.append_right _)
  exact lc_loop (ok := fun _ => True) (F := fun ds δ acc => forC (compB own g t e) ds δ acc fun acc δ2 => R (.nd .lst true acc) (unwipe δ1 δ2 own)) (R := fun acc δ2 => R (.nd .lst true acc) (unwipe δ1 δ2 own)) hp ho hns dw.toE hA s3 hr (fun d ds δ acc h => ⟨trivial, h⟩) (fun δ acc h => ⟨trivial, h⟩)
    fun acc δ2 H2 hr2 _ s4 => q _ _ _ _ hr2 (back δ2 _ H2 (s4.under.perm List.perm_middle.symm))
/-! ### over a dict's keys -/
theorem good_atoms {K : PySem.W.Frag} {H : Hp} {L : List Res} (g : Good K H L) : ∀ ks : List Key, Good K H (vals (ks.map kV) (ks.map keyD) ++ L)
  | [] => g
  | .inl i :: ks => (good_atoms g ks).mkat
  | .inr x :: ks => (good_atoms g ks).mkat
theorem zip_get {α β : Type} {xs : List α} {ys : List β} {i : Nat} {x : α} {y : β} (h : (xs.zip ys)[i]? = some (x, y)) : xs[i]? = some x ∧ ys[i]? = some y := List.getElem?_zip_eq_some.mp h
/-- the locked dict in slot i -/
theorem slot_lock {K : PySem.W.Frag} {pn : List (Nat × V)} {σ : L2.St} {δ : Env} {Fr : List Res} {H : Hp} {i : Nat} {a : Addr} {k : Kd} {ds : List D} (s : Sim K pn σ δ Fr H) (hv : σ[i]? = some (some (.ref a))) (hk : k.isTup = false) (h : δ[i]? = some (some (.nd k true ds))) :
    ∃ vs, Fit k vs ∧ H a = some (ho k vs) := by
  obtain ⟨v, e, s1⟩ := s.out h
  obtain ⟨a', vs, rfl, hl, hf, hH, _⟩ := s1.front.unpack hk
  rw [hv] at e
  cases e
  exact ⟨vs, hf, hH⟩
theorem dw_dK {K : PySem.W.Frag} {σ : L2.St} {i : Nat} {a : Addr} {o : Unit → Obj × List V} {ks : List Key} {ds : List D} (hv : σ[i]? = some (some (.ref a))) (hl : ks.length = (o ()).2.length) :
    DWalkE K σ (Itk a (o ()).1 (ks.zip (o ()).2)) (ks.map keyD) (fun δ => δ[i]? = some (some (.nd (.lkK o ks) true ds))) [] where
  stops := fun pn δ Fr H s h => by
    obtain ⟨vs, ⟨_, _, e⟩, hH⟩ := slot_lock s hv rfl h
    rw [e]; rw [e] at hl
    exact ⟨hH, by simp [hl]⟩
  goes := fun pn δ Fr H j hj s h => by
    obtain ⟨vs, ⟨_, _, e⟩, hH⟩ := slot_lock s hv rfl h
    rw [e]; rw [e] at hl
    exact ⟨hH, by simpa [hl] using hj⟩
  yields := fun pn δ Fr H j x H' d hd s h y => by
    obtain ⟨rfl, k, v, e, rfl⟩ := y
    have e1 := (zip_get e).1
    rw [List.getElem?_map, e1] at hd
    obtain rfl : keyD k = d := Option.some.inj hd
    cases k with
    | inl i => exact s.mkat
    | inr i => exact s.mkat
theorem dw_dT {K : PySem.W.Frag} {σ : L2.St} {i : Nat} {a : Addr} {o : Unit → Obj × List V} {ks : List (List Key)} {ds : List D} (hv : σ[i]? = some (some (.ref a))) (hl : ks.length = (o ()).2.length) :
    DWalkE K σ (Itkt a (o ()).1 (ks.zip (o ()).2)) (ks.map keysD) (fun δ => δ[i]? = some (some (.nd (.lkT o ks) true ds))) [] where
  stops := fun pn δ Fr H s h => by
    obtain ⟨vs, ⟨_, _, e⟩, hH⟩ := slot_lock s hv rfl h
    rw [e]; rw [e] at hl
    exact ⟨hH, by simp [hl]⟩
  goes := fun pn δ Fr H j hj s h => by
    obtain ⟨vs, ⟨_, _, e⟩, hH⟩ := slot_lock s hv rfl h
    rw [e]; rw [e] at hl
    exact ⟨hH, by simpa [hl] using hj⟩
  yields := fun pn δ Fr H j x H' d hd s h y => by
    obtain ⟨rfl, k, v, q, e, rfl, hq⟩ := y
    have e1 := (zip_get e).1
    rw [List.getElem?_map, e1] at hd
    obtain rfl : keysD k = d := Option.some.inj hd
    exact s.of (Good.mktup (by simp) hq (good_atoms s.front k))
/-- what a comprehension over the dict in slot i computes -/
def compKW (own : List Nat) (i : Nat) (g : WG) (t : WT) (e : WE) : WE := fun δ Q => ∃ c ds, δ[i]? = some (some (.nd c true ds)) ∧ c.isDict = true ∧ c.base = c ∧ ∀ o, forK (fun δ => δ[i]? = some (some (.nd (c.lock o) true ds))) (compB own g t e) c.keys (wipeD (δ.set i (some (.nd (c.lock o) true ds))) own) [] fun acc δ2 =>
      Q (.nd .lst true acc) ((unwipe (δ.set i (some (.nd (c.lock o) true ds))) δ2 own).set i (some (.nd c true ds)))
theorem unwipe_ne {δ δ2 : Env} {i : Nat} : ∀ {own : List Nat}, i ∉ own → (unwipe δ δ2 own)[i]? = δ2[i]?
  | [], _ => rfl
  | j :: own, h => by
    simp only [List.mem_cons, not_or] at h
    show ((unwipe δ δ2 own).set j _)[i]? = _
    rw [List.getElem?_set_ne (fun z => h.1 z.symm)]
    exact unwipe_ne h.2
theorem lock_isTup {c : Kd} {o : Unit → Obj × List V} (hd : c.isDict = true) : (c.lock o).isTup = false := by cases c <;> simp_all [Kd.lock, Kd.isTup, Kd.isDict]
theorem lock_ho {c : Kd} {o : Unit → Obj × List V} {vs : List V} (hd : c.isDict = true) (hb : c.base = c) : ho (c.lock o) vs = .frz (o ()).1 (ho c vs) := by cases c <;> simp_all [Kd.lock, Kd.base, Kd.isDict, ho]
theorem lock_fit {c : Kd} {o : Unit → Obj × List V} {vs : List V} (hd : c.isDict = true) (hb : c.base = c) : Fit (c.lock o) vs ↔ Fit c vs ∧ (o ()).2 = vs := by cases c <;> simp_all [Kd.lock, Kd.base, Kd.isDict, Fit, and_assoc]
/-- the dict in slot i is locked while the loop runs -/
theorem lock_loop {K : PySem.W.Frag} {σ : L2.St} {pn : List (Nat × V)} {δ : Env} {Fr : List Res} {H : Hp} {i : Nat} {c : Kd} {ds : List D} (s : Sim K pn σ δ Fr H) (e : δ[i]? = some (some (.nd c true ds))) (hd : c.isDict = true) (hb : c.base = c) :
    ∃ a vs, σ[i]? = some (some (.ref a)) ∧ H a = some (ho c vs) ∧ Mut (some (ho c vs)) ∧ Fit c vs ∧ (∀ od, Sim K pn σ (δ.set i (some (.nd (c.lock fun _ => (od, vs)) true ds))) Fr (upd H a (.frz od (ho c vs)))) ∧
      ∀ od δ2 Fr2 H2, Sim K pn σ δ2 Fr2 H2 → δ2[i]? = some (some (.nd (c.lock fun _ => (od, vs)) true ds)) → H2 a = some (.frz od (ho c vs)) ∧ Sim K pn σ (δ2.set i (some (.nd c true ds))) Fr2 (upd H2 a (ho c vs)) := by
  have ht : c.isTup = false := by cases c <;> simp_all [Kd.isTup, Kd.isDict]
  obtain ⟨v, e1, s1⟩ := s.out e
  obtain ⟨a, vs, rfl, hl, hf, hH, g⟩ := s1.front.unpack ht
  refine ⟨a, vs, e1, hH, by cases c <;> simp_all [Mut, ho, Kd.isDict, Kd.base], hf, fun od => ?_, fun od δ2 Fr2 H2 s2 e2 => ?_⟩
  · have g2 := g.write (o' := ho (c.lock fun _ => (od, vs)) vs) (mut_ho (lock_isTup hd) vs)
    rw [lock_ho hd hb] at g2
    have g3 := Good.pack (k := c.lock fun _ => (od, vs)) (lock_isTup hd) hl ((lock_fit hd hb).mpr ⟨hf, rfl⟩) (by rw [lock_ho hd hb]; exact g2)
    have s4 := (s1.ofc g3).back e1
    rwa [List.set_set] at s4
  · obtain ⟨v2, e3, s3⟩ := s2.out e2
    obtain rfl : v2 = .ref a := by rw [e1] at e3; exact (Option.some.inj (Option.some.inj e3)).symm
    obtain ⟨a', vs', ea, hl', hf', hH', g'⟩ := s3.front.unpack (lock_isTup hd)
    cases ea
    obtain ⟨hf2, ev⟩ := (lock_fit hd hb).mp hf'
    obtain rfl : vs = vs' := ev
    rw [lock_ho hd hb] at hH' g'
    refine ⟨hH', ?_⟩
    have g3 := Good.pack (k := c) ht hl' hf2 (g'.write (o' := ho c vs) (mut_ho ht vs))
    have s4 := (s3.ofc g3).back e1
    rwa [List.set_set] at s4
theorem compK_ok {K : PySem.W.Frag} {i : Nat} (hi : i ∉ own) (ho : ∀ i ∈ own, i ∉ mu) (hns : ∀ i ∈ ns, i ∈ own) {σ : L2.St} {H : Hp} {Q : VK} (h : liftE K mu (compKW own i g t e) σ H Q) : tLockE (tLc (iKeys (tVar i)) (liftG K mu ns g) (liftT K mu t) (liftE K mu e) own) σ H Q := by
  obtain ⟨pn, δ, Fr, R, hp, s, ⟨c, ds, e1, hd, hb, h⟩, q⟩ := h
  obtain ⟨a, vs, ea, hH, hm, hf, hlk, hun⟩ := lock_loop s e1 hd hb
  refine ⟨a, _, hH, hm, fun od => ?_⟩
  have s1 := hlk od
  obtain ⟨Ro, s2, back⟩ := s1.aside (own := own)
  have hr := h fun _ => (od, vs)
  have hil : i < δ.length := (List.getElem?_eq_some_iff.mp e1).1
  have key : ∀ (J : L2.It), DWalkE K (wipe σ own) J c.keys (fun δ => δ[i]? = some (some (.nd (c.lock fun _ => (od, vs)) true ds))) [] → ∀ A, upd H a (.frz od (Z.ho c vs)) A = none → _ := fun J dw A hA =>
    lc_loop (K := K) (σ := σ) (mu := mu) (ns := ns) (g := g) (t := t) (e := e) (L0 := []) (Fr := Ro ++ Fr) (J := J) (ok := fun δ => δ[i]? = some (some (.nd (c.lock fun _ => (od, vs)) true ds)))
      (Q := fun v H' => H' a = some (.frz od (Z.ho c vs)) ∧ Q v (upd H' a (Z.ho c vs)))
      (F := fun kk δ' acc => forK (fun δ => δ[i]? = some (some (.nd (c.lock fun _ => (od, vs)) true ds))) (compB own g t e) kk δ' acc fun acc δ2 => R (.nd .lst true acc) ((unwipe (δ.set i (some (.nd (c.lock fun _ => (od, vs)) true ds))) δ2 own).set i (some (.nd c true ds))))
      (R := fun acc δ2 => R (.nd .lst true acc) ((unwipe (δ.set i (some (.nd (c.lock fun _ => (od, vs)) true ds))) δ2 own).set i (some (.nd c true ds)))) hp ho hns dw hA s2 hr (fun d ds δ acc h => h) (fun δ acc h => h)
      fun acc δ2 H2 hr2 hok s4 => by
        have s5 := back δ2 _ H2 ((Sim.under (L := []) s4).perm List.perm_middle.symm)
        obtain ⟨h1, s6⟩ := hun od _ _ H2 s5 (by rw [unwipe_ne hi]; exact hok)
        exact ⟨h1, q _ _ _ _ hr2 s6⟩
  refine ⟨.ref a, ea, a, od, rfl, ?_⟩
  have hv : (wipe σ own)[i]? = some (some (.ref a)) := by rw [wipe_get, if_neg hi]; exact ea
  match c, hd, hb with
  | .dK ks, _, _ => exact .inl ⟨_, upd_same, fun A hA => key _ (dw_dK (o := fun _ => (od, vs)) hv hf.1) A hA⟩
  | .dT ks, _, _ => exact .inr ⟨_, upd_same, fun A hA => key _ (dw_dT (o := fun _ => (od, vs)) hv hf.1) A hA⟩
end
end Z
set_option Elab.async false
set_option linter.all false
set_option maxRecDepth 100000
set_option autoImplicit false
namespace Z
open PySem PySem.Spec PyProof.Rows L2
/-! ## the readings of the text, in the syntax's terms -/
abbrev EP (X : Cx) (mu : List Nat) (ex : Expr) (e : E) : Prop := PE X ex (liftP X.K mu (wpP e))
abbrev EE (X : Cx) (Γ : Nat → Ct) (mu : List Nat) (ex : Expr) (e : E) : Prop := PE X ex (liftE X.K mu (wpE Γ e))
abbrev EPT (X : Cx) (mu : List Nat) (ex : Expr) (t : T) : Prop := PT X ex (liftPT X.K mu (wpPT t))
abbrev ET (X : Cx) (Γ : Nat → Ct) (mu : List Nat) (ex : Expr) (t : T) : Prop := PT X ex (liftT X.K mu (wpT Γ t))
abbrev EPW (X : Cx) (mu : List Nat) (ex : Expr) (t : T) : Prop := PW X ex (liftPT X.K mu (wpPT t))
abbrev EW (X : Cx) (Γ : Nat → Ct) (mu : List Nat) (ex : Expr) (t : T) : Prop := PW X ex (liftT X.K mu (wpT Γ t))
abbrev EA (X : Cx) (Γ : Nat → Ct) (mu : List Nat) (bs : List (Nat × Nat)) (es : List Expr) (e : Es) : Prop := PA X es (liftEs X.K mu bs (wpEs Γ e))
abbrev EI (X : Cx) (Γ : Nat → Ct) (mu : List Nat) (tg ex : Expr) (it : It) : Prop := PI X tg ex (liftI X.K mu (wpIt Γ it))
abbrev EO (X : Cx) (Γ : Nat → Ct) (mu : List Nat) (ex : Option Expr) (o : O) : Prop := PO X ex (liftO X.K mu (wpO Γ o))
abbrev EG (X : Cx) (mu ns : List Nat) (tg : Expr) (g : G) : Prop := PG X tg (liftG X.K mu ns (wpG g))
abbrev EGs (X : Cx) (mu ns : List Nat) (tg : List Expr) (g : List G) : Prop := PGs X tg (liftGs X.K mu ns (wpGs g))
abbrev ES (X : Cx) (Γ : Nat → Ct) (mu : List Nat) (st : Stmt) (s : S) : Prop := ∀ W, Takes X W → PS X st (liftS X.K mu X.mg W (wpS Γ s))
abbrev ESs (X : Cx) (Γ : Nat → Ct) (mu : List Nat) (st : List Stmt) (s : Ss) : Prop := ∀ W, Takes X W → PSs X st (liftS X.K mu X.mg W (wpSs Γ s))
theorem Does1.imp {X : Cx} {r r' : R1} {ev : D → (D → Prop) → Prop} (h : Does1 X r' ev) (i : ∀ v H Q, r' v H Q → r v H Q) : Does1 X r ev := fun L H v d R Q h1 h2 q => i _ _ _ (h L H v d R Q h1 h2 q)
theorem DoesA.imp {X : Cx} {r r' : R1} {ev : D → (D → Prop) → Prop} (h : DoesA X r' ev) (i : ∀ v H Q, r' v H Q → r v H Q) : DoesA X r ev := fun L H v d R Q h1 h2 q => i _ _ _ (h L H v d R Q h1 h2 q)
theorem evB_iop0 {g : Int → Int → Bool} : EvB (iop0 fun i j => .bl (g i j)) := fun x y k h => by
  unfold iop0 at h ⊢
  split at h
  · exact ⟨_, rfl, h⟩
  · exact h.elim
theorem eqD_mono {x y : D} {k k' : Bool → Prop} (i : ∀ b, k b → k' b) (h : eqD x y k) : eqD x y k' := by
  unfold eqD at h ⊢
  split at h
  · exact i _ h
  · exact i _ h
  · exact i _ h
  · obtain ⟨a, b, e1, e2, e3, e4, h⟩ := h
    exact ⟨a, b, e1, e2, e3, e4, i _ h⟩
theorem evB_eq : EvB (ev2 .eq) := fun x y k h => eqD_mono (fun b h => ⟨_, rfl, h⟩) h
theorem evB_ne : EvB (ev2 .ne) := fun x y k h => eqD_mono (fun b h => ⟨_, rfl, h⟩) h
theorem op_mulA {X : Cx} : OpR X (binaryOp .Mult) (rI (fun i j => CMulW i j ∨ CMul i j) fun i j => .int (i * j)) := by
  intro pins s σ H x y v u Q I rx ry h
  obtain ⟨i, j, rfl, rfl, c, q⟩ := h
  rcases c with c | c
  · exact op_mulW pins s σ H _ _ v u Q I rx ry ⟨i, j, rfl, rfl, c, q⟩
  · exact op_mul pins s σ H _ _ v u Q I rx ry ⟨i, j, rfl, rfl, c, q⟩
/-- what a context must give: built-in names that the program has not stored -/
structure Blt (X : Cx) (x : Str) : Prop where
  gl : Gl X x
  no : X.mg x = none
section
variable {X : Cx} {Γ : Nat → Ct} {mu : List Nat} {a b c o ex : Expr} {ea eb ec eo : E} {pos p apos p2 : Pos} {t1 t2 : T} {x : Str} {i : Nat}
theorem P_u {op : U1} {r : R1} (hs : ∀ ta, PE X a ta → PE X ex (fun σ H Q => ta σ H fun x H1 => r x H1 Q)) (hd : Does1 X r (ev1 op)) (ha : EP X mu a ea) : EP X mu ex (.u op ea) := p_u (ev := ev1 op) (wp := wpP ea) hs hd ha
theorem E_u {op : U1} {r : R1} (hs : ∀ ta, PE X a ta → PE X ex (fun σ H Q => ta σ H fun x H1 => r x H1 Q)) (hd : Does1 X r (ev1 op)) (ha : EE X Γ mu a ea) : EE X Γ mu ex (.u op ea) := e_u (ev := ev1 op) (we := wpE Γ ea) hs hd ha
theorem P_b {op : U2} {r : R2} (hs : ∀ ta tb, PE X a ta → PE X b tb → PE X ex (tOp r ta tb)) (hd : Does2 X r (ev2 op)) (ha : EP X mu a ea) (hb : EP X mu b eb) : EP X mu ex (.b op ea eb) := p_b (ev := ev2 op) (wp := wpP ea) (wp' := wpP eb) hs hd ha hb
theorem E_b {op : U2} {r : R2} (hs : ∀ ta tb, PE X a ta → PE X b tb → PE X ex (tOp r ta tb)) (hd : Does2 X r (ev2 op)) (ha : EE X Γ mu a ea) (hb : EE X Γ mu b eb) : EE X Γ mu ex (.b op ea eb) := e_b (ev := ev2 op) (we := wpE Γ ea) (we' := wpE Γ eb) hs hd ha hb
theorem call1 {r : List V → Hp → VK → Prop} {id : String} (hc : CallR X (.builtin id) r) (B : Blt X x) (hv : bootBuiltins x = some (.builtin id)) (hs : noStar a = true) (hn : x ≠ "__name__") (hdb : (x == ("__debug__" : Str)) = false) :
    ∀ ta, PE X a ta → PE X (.Call (.Name x p) [a] [] pos) (fun σ H Q => ta σ H fun v H1 => r [v] H1 Q) := fun ta ha =>
  pe_callB hc B.gl B.no hv (pa_cons ha pa_nil (noStar_star hs)) hn hdb (noStar_star hs) rfl
theorem callT1 {r : List V → Hp → VK → Prop} {id : String} (hc : CallR X (.type id) r) (B : Blt X x) (hv : bootBuiltins x = some (.type id)) (hs : noStar a = true) (hn : x ≠ "__name__") (hdb : (x == ("__debug__" : Str)) = false) :
    ∀ ta, PE X a ta → PE X (.Call (.Name x p) [a] [] pos) (fun σ H Q => ta σ H fun v H1 => r [v] H1 Q) := fun ta ha =>
  pe_callTy hc B.gl B.no hv (pa_cons ha pa_nil (noStar_star hs)) hn hdb (noStar_star hs) rfl
/-! ### constants and names -/
theorem P_int {j : Int} {k : Nat} : EP X mu (.Constant (.int j) k pos) (.c (.int j)) := p_c pe_int
theorem P_str {j : Str} {k : Nat} : EP X mu (.Constant (.str j) k pos) (.c (.str j)) := p_c pe_str
theorem P_bl {j : Bool} {k : Nat} : EP X mu (.Constant (.bool j) k pos) (.c (.bl j)) := p_c pe_bl
theorem P_non {k : Nat} : EP X mu (.Constant .none k pos) (.c .non) := p_c pe_non
theorem E_int {j : Int} {k : Nat} : EE X Γ mu (.Constant (.int j) k pos) (.c (.int j)) := e_c pe_int
theorem E_str {j : Str} {k : Nat} : EE X Γ mu (.Constant (.str j) k pos) (.c (.str j)) := e_c pe_str
theorem E_bl {j : Bool} {k : Nat} : EE X Γ mu (.Constant (.bool j) k pos) (.c (.bl j)) := e_c pe_bl
theorem E_non {k : Nat} : EE X Γ mu (.Constant .none k pos) (.c .non) := e_c pe_non
theorem P_var {x : Str} (i : Nat) (hN : X.N[i]? = some x) (hv : Vis X.env.scope x) (hd : (x == ("__debug__" : Str)) = false) (hcd : (x == ("__classdict__" : Str)) = false) : EP X mu (.Name x pos) (.var i) := p_var hN hv hd hcd
theorem E_mv {x : Str} (i : Nat) (hN : X.N[i]? = some x) (hv : Vis X.env.scope x) (hd : (x == ("__debug__" : Str)) = false) (hcd : (x == ("__classdict__" : Str)) = false) : EE X Γ mu (.Name x pos) (.mv i) := e_mv hN hv hd hcd
theorem E_sh {x : Str} (i : Nat) (hN : X.N[i]? = some x) (hv : Vis X.env.scope x) (hd : (x == ("__debug__" : Str)) = false) (hcd : (x == ("__classdict__" : Str)) = false) : EE X Γ mu (.Name x pos) (.sh i) := e_sh hN hv hd hcd
theorem E_pv (h : EP X mu ex ea) : EE X Γ mu ex (.pv ea) := e_pv h
/-! ### operations on two -/
theorem P_add (ha : EP X mu a ea) (hb : EP X mu b eb) : EP X mu (.BinOp a .Add b pos) (.b .add ea eb) := P_b (fun _ _ ha hb => pe_op (op_add.or op_add_str) ha hb) does_add ha hb
theorem E_add (ha : EE X Γ mu a ea) (hb : EE X Γ mu b eb) : EE X Γ mu (.BinOp a .Add b pos) (.b .add ea eb) := E_b (fun _ _ ha hb => pe_op (op_add.or op_add_str) ha hb) does_add ha hb
theorem P_sub (ha : EP X mu a ea) (hb : EP X mu b eb) : EP X mu (.BinOp a .Sub b pos) (.b .sub ea eb) := P_b (fun _ _ ha hb => pe_op op_sub ha hb) does_iop0 ha hb
theorem E_sub (ha : EE X Γ mu a ea) (hb : EE X Γ mu b eb) : EE X Γ mu (.BinOp a .Sub b pos) (.b .sub ea eb) := E_b (fun _ _ ha hb => pe_op op_sub ha hb) does_iop0 ha hb
theorem P_mul (ha : EP X mu a ea) (hb : EP X mu b eb) : EP X mu (.BinOp a .Mult b pos) (.b .mul ea eb) := P_b (fun _ _ ha hb => pe_op op_mulA ha hb) does_iop ha hb
theorem E_mul (ha : EE X Γ mu a ea) (hb : EE X Γ mu b eb) : EE X Γ mu (.BinOp a .Mult b pos) (.b .mul ea eb) := E_b (fun _ _ ha hb => pe_op op_mulA ha hb) does_iop ha hb
theorem P_fdiv (ha : EP X mu a ea) (hb : EP X mu b eb) : EP X mu (.BinOp a .FloorDiv b pos) (.b .fdiv ea eb) := P_b (fun _ _ ha hb => pe_op op_fdivW ha hb) does_iop ha hb
theorem E_fdiv (ha : EE X Γ mu a ea) (hb : EE X Γ mu b eb) : EE X Γ mu (.BinOp a .FloorDiv b pos) (.b .fdiv ea eb) := E_b (fun _ _ ha hb => pe_op op_fdivW ha hb) does_iop ha hb
theorem P_mod (ha : EP X mu a ea) (hb : EP X mu b eb) : EP X mu (.BinOp a .Mod b pos) (.b .mod ea eb) := P_b (fun _ _ ha hb => pe_op op_mod ha hb) does_iop ha hb
theorem E_mod (ha : EE X Γ mu a ea) (hb : EE X Γ mu b eb) : EE X Γ mu (.BinOp a .Mod b pos) (.b .mod ea eb) := E_b (fun _ _ ha hb => pe_op op_mod ha hb) does_iop ha hb
theorem P_pow (ha : EP X mu a ea) (hb : EP X mu b eb) : EP X mu (.BinOp a .Pow b pos) (.b .pow ea eb) := P_b (fun _ _ ha hb => pe_op op_pow ha hb) does_iop ha hb
theorem E_pow (ha : EE X Γ mu a ea) (hb : EE X Γ mu b eb) : EE X Γ mu (.BinOp a .Pow b pos) (.b .pow ea eb) := E_b (fun _ _ ha hb => pe_op op_pow ha hb) does_iop ha hb
theorem P_shl (ha : EP X mu a ea) (hb : EP X mu b eb) : EP X mu (.BinOp a .LShift b pos) (.b .shl ea eb) := P_b (fun _ _ ha hb => pe_op op_shl ha hb) does_iop ha hb
theorem E_shl (ha : EE X Γ mu a ea) (hb : EE X Γ mu b eb) : EE X Γ mu (.BinOp a .LShift b pos) (.b .shl ea eb) := E_b (fun _ _ ha hb => pe_op op_shl ha hb) does_iop ha hb
theorem P_eq (hu : X.A.units + 64 < cLine) (hm : behindInMarks .Eq b = false) (ha : EP X mu a ea) (hb : EP X mu b eb) : EP X mu (.Compare a [.Eq] [b] pos) (.b .eq ea eb) := P_b (fun _ _ ha hb => pe_cmpR (op_eq.or (op_eqD hu)) ha hb hm) does_eq ha hb
theorem E_eq (hu : X.A.units + 64 < cLine) (hm : behindInMarks .Eq b = false) (ha : EE X Γ mu a ea) (hb : EE X Γ mu b eb) : EE X Γ mu (.Compare a [.Eq] [b] pos) (.b .eq ea eb) := E_b (fun _ _ ha hb => pe_cmpR (op_eq.or (op_eqD hu)) ha hb hm) does_eq ha hb
theorem PT_eq (hu : X.A.units + 64 < cLine) (hm : behindInMarks .Eq b = false) (ha : EP X mu a ea) (hb : EP X mu b eb) : EPT X mu (.Compare a [.Eq] [b] pos) (.v (.b .eq ea eb)) := pt_b (op_eq.or (op_eqD hu)) does_eq evB_eq ha hb hm
theorem T_eq (hu : X.A.units + 64 < cLine) (hm : behindInMarks .Eq b = false) (ha : EE X Γ mu a ea) (hb : EE X Γ mu b eb) : ET X Γ mu (.Compare a [.Eq] [b] pos) (.v (.b .eq ea eb)) := et_b (op_eq.or (op_eqD hu)) does_eq evB_eq ha hb hm
theorem P_ne (hu : X.A.units + 64 < cLine) (hm : behindInMarks .NotEq b = false) (ha : EP X mu a ea) (hb : EP X mu b eb) : EP X mu (.Compare a [.NotEq] [b] pos) (.b .ne ea eb) := P_b (fun _ _ ha hb => pe_cmpR (op_ne.or (op_neD hu)) ha hb hm) does_ne ha hb
theorem E_ne (hu : X.A.units + 64 < cLine) (hm : behindInMarks .NotEq b = false) (ha : EE X Γ mu a ea) (hb : EE X Γ mu b eb) : EE X Γ mu (.Compare a [.NotEq] [b] pos) (.b .ne ea eb) := E_b (fun _ _ ha hb => pe_cmpR (op_ne.or (op_neD hu)) ha hb hm) does_ne ha hb
theorem PT_ne (hu : X.A.units + 64 < cLine) (hm : behindInMarks .NotEq b = false) (ha : EP X mu a ea) (hb : EP X mu b eb) : EPT X mu (.Compare a [.NotEq] [b] pos) (.v (.b .ne ea eb)) := pt_b (op_ne.or (op_neD hu)) does_ne evB_ne ha hb hm
theorem T_ne (hu : X.A.units + 64 < cLine) (hm : behindInMarks .NotEq b = false) (ha : EE X Γ mu a ea) (hb : EE X Γ mu b eb) : ET X Γ mu (.Compare a [.NotEq] [b] pos) (.v (.b .ne ea eb)) := et_b (op_ne.or (op_neD hu)) does_ne evB_ne ha hb hm
theorem P_lt (hm : behindInMarks .Lt b = false) (ha : EP X mu a ea) (hb : EP X mu b eb) : EP X mu (.Compare a [.Lt] [b] pos) (.b .lt ea eb) := P_b (fun _ _ ha hb => pe_cmpR op_lt ha hb hm) does_iop0 ha hb
theorem E_lt (hm : behindInMarks .Lt b = false) (ha : EE X Γ mu a ea) (hb : EE X Γ mu b eb) : EE X Γ mu (.Compare a [.Lt] [b] pos) (.b .lt ea eb) := E_b (fun _ _ ha hb => pe_cmpR op_lt ha hb hm) does_iop0 ha hb
theorem PT_lt (hm : behindInMarks .Lt b = false) (ha : EP X mu a ea) (hb : EP X mu b eb) : EPT X mu (.Compare a [.Lt] [b] pos) (.v (.b .lt ea eb)) := pt_b op_lt does_iop0 evB_iop0 ha hb hm
theorem T_lt (hm : behindInMarks .Lt b = false) (ha : EE X Γ mu a ea) (hb : EE X Γ mu b eb) : ET X Γ mu (.Compare a [.Lt] [b] pos) (.v (.b .lt ea eb)) := et_b op_lt does_iop0 evB_iop0 ha hb hm
theorem P_le (hm : behindInMarks .LtE b = false) (ha : EP X mu a ea) (hb : EP X mu b eb) : EP X mu (.Compare a [.LtE] [b] pos) (.b .le ea eb) := P_b (fun _ _ ha hb => pe_cmpR op_le ha hb hm) does_iop0 ha hb
theorem E_le (hm : behindInMarks .LtE b = false) (ha : EE X Γ mu a ea) (hb : EE X Γ mu b eb) : EE X Γ mu (.Compare a [.LtE] [b] pos) (.b .le ea eb) := E_b (fun _ _ ha hb => pe_cmpR op_le ha hb hm) does_iop0 ha hb
theorem PT_le (hm : behindInMarks .LtE b = false) (ha : EP X mu a ea) (hb : EP X mu b eb) : EPT X mu (.Compare a [.LtE] [b] pos) (.v (.b .le ea eb)) := pt_b op_le does_iop0 evB_iop0 ha hb hm
theorem T_le (hm : behindInMarks .LtE b = false) (ha : EE X Γ mu a ea) (hb : EE X Γ mu b eb) : ET X Γ mu (.Compare a [.LtE] [b] pos) (.v (.b .le ea eb)) := et_b op_le does_iop0 evB_iop0 ha hb hm
theorem P_gt (hm : behindInMarks .Gt b = false) (ha : EP X mu a ea) (hb : EP X mu b eb) : EP X mu (.Compare a [.Gt] [b] pos) (.b .gt ea eb) := P_b (fun _ _ ha hb => pe_cmpR op_gt ha hb hm) does_iop0 ha hb
theorem E_gt (hm : behindInMarks .Gt b = false) (ha : EE X Γ mu a ea) (hb : EE X Γ mu b eb) : EE X Γ mu (.Compare a [.Gt] [b] pos) (.b .gt ea eb) := E_b (fun _ _ ha hb => pe_cmpR op_gt ha hb hm) does_iop0 ha hb
theorem PT_gt (hm : behindInMarks .Gt b = false) (ha : EP X mu a ea) (hb : EP X mu b eb) : EPT X mu (.Compare a [.Gt] [b] pos) (.v (.b .gt ea eb)) := pt_b op_gt does_iop0 evB_iop0 ha hb hm
theorem T_gt (hm : behindInMarks .Gt b = false) (ha : EE X Γ mu a ea) (hb : EE X Γ mu b eb) : ET X Γ mu (.Compare a [.Gt] [b] pos) (.v (.b .gt ea eb)) := et_b op_gt does_iop0 evB_iop0 ha hb hm
theorem P_ge (hm : behindInMarks .GtE b = false) (ha : EP X mu a ea) (hb : EP X mu b eb) : EP X mu (.Compare a [.GtE] [b] pos) (.b .ge ea eb) := P_b (fun _ _ ha hb => pe_cmpR op_ge ha hb hm) does_iop0 ha hb
theorem E_ge (hm : behindInMarks .GtE b = false) (ha : EE X Γ mu a ea) (hb : EE X Γ mu b eb) : EE X Γ mu (.Compare a [.GtE] [b] pos) (.b .ge ea eb) := E_b (fun _ _ ha hb => pe_cmpR op_ge ha hb hm) does_iop0 ha hb
theorem PT_ge (hm : behindInMarks .GtE b = false) (ha : EP X mu a ea) (hb : EP X mu b eb) : EPT X mu (.Compare a [.GtE] [b] pos) (.v (.b .ge ea eb)) := pt_b op_ge does_iop0 evB_iop0 ha hb hm
theorem T_ge (hm : behindInMarks .GtE b = false) (ha : EE X Γ mu a ea) (hb : EE X Γ mu b eb) : ET X Γ mu (.Compare a [.GtE] [b] pos) (.v (.b .ge ea eb)) := et_b op_ge does_iop0 evB_iop0 ha hb hm
theorem P_idx (hs : noLc b = true) (ha : EP X mu a ea) (hb : EP X mu b eb) : EP X mu (.Subscript a b pos) (.b .idx ea eb) := P_b (fun _ _ ha hb => pe_ix ix_seq ha hb (noLc_ix hs)) does_idx ha hb
theorem E_idx (hs : noLc b = true) (ha : EE X Γ mu a ea) (hb : EE X Γ mu b eb) : EE X Γ mu (.Subscript a b pos) (.b .idx ea eb) := E_b (fun _ _ ha hb => pe_ix ix_seq ha hb (noLc_ix hs)) does_idx ha hb
theorem evJoin_str {x y : D} {k : D → Prop} (h : evJoin x y k) : ∃ s, x = .at (.str s) := by
  unfold evJoin at h
  split at h
  · exact ⟨_, rfl⟩
  · exact ⟨_, rfl⟩
  · exact h.elim
theorem join_eta {K : PySem.W.Frag} {v u : V} {H : Hp} {Q : VK} (h : ∃ a p, ∃ ys : List Str, v = .str a ∧ u = .ref p ∧ (SqL K H p (ys.map V.str) ∨ SqT K H p (ys.map V.str)) ∧ (ys.map (·.length)).sum + ys.length * a.length ≤ 16777216 ∧ Q (.str (Txt.join a ys)) H) :
    ∃ a p, ∃ ys : List Str, v = .str a ∧ [u] = [V.ref p] ∧ (SqL K H p (ys.map V.str) ∨ SqT K H p (ys.map V.str)) ∧ (ys.map (·.length)).sum + ys.length * a.length ≤ 16777216 ∧ Q (.str (Txt.join a ys)) H := by
  obtain ⟨a, p, ys, h1, h2, h3⟩ := h
  exact ⟨a, p, ys, h1, by rw [h2], h3⟩
theorem P_join (hs : noStar b = true) (hb0 : attributeBase a "join" X.env (eval a X.env) = eval a X.env) (hl : (apos.endLine == pos.line) = true) {s : Str} {j : Nat} {cp : Pos} (hc : a = .Constant (.str s) j cp) (hb : EP X mu b eb) : EP X mu (.Call (.Attribute a "join" apos) [b] [] pos) (.b .join (.c (.str s)) eb) := by
  subst hc
  exact PEmono (pe_join pe_str hb (noStar_star hs) hb0 hl) fun σ H Q ⟨pn, δ, Fr, R, hp, sm, h, q⟩ => ⟨⟨_, rfl⟩, pn, δ, Fr, _, hp, sm, h, fun d v hr i => join_eta (does_join _ H _ v _ d _ Q i.mkat i hr fun w dr hr2 i2 => q dr w hr2 i2)⟩
theorem E_join (hs : noStar b = true) (hb0 : attributeBase a "join" X.env (eval a X.env) = eval a X.env) (hl : (apos.endLine == pos.line) = true) {s : Str} {j : Nat} {cp : Pos} (hc : a = .Constant (.str s) j cp) (hb : EE X Γ mu b eb) : EE X Γ mu (.Call (.Attribute a "join" apos) [b] [] pos) (.b .join (.c (.str s)) eb) := by
  subst hc
  exact PEmono (pe_join pe_str hb (noStar_star hs) hb0 hl) fun σ H Q ⟨pn, δ, Fr, R, hp, sm, h, q⟩ => ⟨⟨_, rfl⟩, pn, δ, Fr, _, hp, sm, h, fun d δ1 v H1 hr s1 => join_eta (does_join _ H1 _ v _ d _ Q (s1.seen List.mem_cons_self).mkat (s1.seen List.mem_cons_self) hr fun w dr hr2 i2 =>
    q dr δ1 w H1 hr2.2 ((s1.hold i2 hr2.1).under (L := [_])))⟩
/-! ### operations on one -/
theorem bn_len : bootBuiltins "len" = some (.builtin "len") := by decide +kernel
theorem bn_abs : bootBuiltins "abs" = some (.builtin "abs") := by decide +kernel
theorem bn_sum : bootBuiltins "sum" = some (.builtin "sum") := by decide +kernel
theorem bn_isi : bootBuiltins "isinstance" = some (.builtin "isinstance") := by decide +kernel
theorem bn_sorted : bootBuiltins "sorted" = some (.builtin "sorted") := by decide +kernel
theorem bn_str : bootBuiltins "str" = some (.type "str") := by decide +kernel
theorem bn_int : bootBuiltins "int" = some (.type "int") := by decide +kernel
theorem bn_tuple : bootBuiltins "tuple" = some (.type "tuple") := by decide +kernel
theorem bn_list : bootBuiltins "list" = some (.type "list") := by decide +kernel
theorem bn_dict : bootBuiltins "dict" = some (.type "dict") := by decide +kernel
theorem bn_bool : bootBuiltins "bool" = some (.type "bool") := by decide +kernel
theorem nm (x : Str) : (x == ("__name__" : Str)) = false → x ≠ "__name__" := fun h e => by rw [e] at h; exact absurd h (by decide)
theorem P_len (B : Blt X "len") (hs : noStar a = true) (ha : EP X mu a ea) : EP X mu (.Call (.Name "len" p) [a] [] pos) (.u .len ea) := P_u (call1 call_len B bn_len hs (by decide) (by decide)) (does_len.imp fun v H Q ⟨n, h, q⟩ => ⟨v, n, rfl, h, q⟩) ha
theorem E_len (B : Blt X "len") (hs : noStar a = true) (ha : EE X Γ mu a ea) : EE X Γ mu (.Call (.Name "len" p) [a] [] pos) (.u .len ea) := E_u (call1 call_len B bn_len hs (by decide) (by decide)) (does_len.imp fun v H Q ⟨n, h, q⟩ => ⟨v, n, rfl, h, q⟩) ha
theorem P_abs (B : Blt X "abs") (hs : noStar a = true) (ha : EP X mu a ea) : EP X mu (.Call (.Name "abs" p) [a] [] pos) (.u .abs ea) := P_u (call1 call_abs B bn_abs hs (by decide) (by decide)) (does_abs.imp fun v H Q ⟨n, h, q⟩ => ⟨n, by rw [h], q⟩) ha
theorem E_abs (B : Blt X "abs") (hs : noStar a = true) (ha : EE X Γ mu a ea) : EE X Γ mu (.Call (.Name "abs" p) [a] [] pos) (.u .abs ea) := E_u (call1 call_abs B bn_abs hs (by decide) (by decide)) (does_abs.imp fun v H Q ⟨n, h, q⟩ => ⟨n, by rw [h], q⟩) ha
theorem P_sum (hcalm : X.calm = true) (B : Blt X "sum") (hs : noStar a = true) (ha : EP X mu a ea) : EP X mu (.Call (.Name "sum" p) [a] [] pos) (.u .sum ea) := P_u (call1 (cr_sum hcalm) B bn_sum hs (by decide) (by decide)) does_sum ha
theorem E_sum (hcalm : X.calm = true) (B : Blt X "sum") (hs : noStar a = true) (ha : EE X Γ mu a ea) : EE X Γ mu (.Call (.Name "sum" p) [a] [] pos) (.u .sum ea) := E_u (call1 (cr_sum hcalm) B bn_sum hs (by decide) (by decide)) does_sum ha
theorem P_toStr (B : Blt X "str") (hs : noStar a = true) (ha : EP X mu a ea) : EP X mu (.Call (.Name "str" p) [a] [] pos) (.u .str ea) := P_u (callT1 (call_str_int.or SkE.call_str_str) B bn_str hs (by decide) (by decide)) (does_str.imp fun v H Q h => h.imp (fun ⟨n, h, h2, q⟩ => ⟨n, by rw [h], h2, q⟩) fun ⟨a, h, q⟩ => ⟨a, by rw [h], q⟩) ha
theorem E_toStr (B : Blt X "str") (hs : noStar a = true) (ha : EE X Γ mu a ea) : EE X Γ mu (.Call (.Name "str" p) [a] [] pos) (.u .str ea) := E_u (callT1 (call_str_int.or SkE.call_str_str) B bn_str hs (by decide) (by decide)) (does_str.imp fun v H Q h => h.imp (fun ⟨n, h, h2, q⟩ => ⟨n, by rw [h], h2, q⟩) fun ⟨a, h, q⟩ => ⟨a, by rw [h], q⟩) ha
theorem P_toInt (B : Blt X "int") (hs : noStar a = true) (ha : EP X mu a ea) : EP X mu (.Call (.Name "int" p) [a] [] pos) (.u .int ea) := P_u (callT1 (call_int1.or call_int_str) B bn_int hs (by decide) (by decide)) (does_int.imp fun v H Q h => h.imp (fun h => h.imp (fun ⟨n, h, q⟩ => ⟨n, by rw [h], q⟩) fun ⟨n, h, q⟩ => ⟨n, by rw [h], q⟩) fun ⟨a, n, h, e1, e2, q⟩ => ⟨a, n, by rw [h], e1, e2, q⟩) ha
theorem E_toInt (B : Blt X "int") (hs : noStar a = true) (ha : EE X Γ mu a ea) : EE X Γ mu (.Call (.Name "int" p) [a] [] pos) (.u .int ea) := E_u (callT1 (call_int1.or call_int_str) B bn_int hs (by decide) (by decide)) (does_int.imp fun v H Q h => h.imp (fun h => h.imp (fun ⟨n, h, q⟩ => ⟨n, by rw [h], q⟩) fun ⟨n, h, q⟩ => ⟨n, by rw [h], q⟩) fun ⟨a, n, h, e1, e2, q⟩ => ⟨a, n, by rw [h], e1, e2, q⟩) ha
theorem P_neg (ha : EP X mu a ea) : EP X mu (.UnaryOp .USub a pos) (.u .neg ea) := P_u (fun _ ha => pe_un un_neg ha) does_neg ha
theorem P_nt (ha : EP X mu a ea) : EP X mu (.UnaryOp .Not a pos) (.u .nt ea) := P_u (fun _ ha => pe_notT ha) does_nt ha
theorem P_isNon {j : Nat} (hm : behindInMarks .Is (.Constant .none j p2) = false) (ha : EP X mu a ea) : EP X mu (.Compare a [.Is] [.Constant .none j p2] pos) (.u .isNon ea) := P_u (r := fun v H Q => V.non = .non ∧ Q (.bl (decide (v = .non))) H) (fun _ ha => pe_cmpR op_isN ha pe_non hm) (does_isNon.imp fun v H Q q => ⟨rfl, q⟩) ha
theorem P_isNotNon {j : Nat} (hm : behindInMarks .IsNot (.Constant .none j p2) = false) (ha : EP X mu a ea) : EP X mu (.Compare a [.IsNot] [.Constant .none j p2] pos) (.u .isNotNon ea) := P_u (r := fun v H Q => V.non = .non ∧ Q (.bl (!decide (v = .non))) H) (fun _ ha => pe_cmpR op_notN ha pe_non hm) (does_isNotNon.imp fun v H Q q => ⟨rfl, q⟩) ha
theorem E_neg (ha : EE X Γ mu a ea) : EE X Γ mu (.UnaryOp .USub a pos) (.u .neg ea) := E_u (fun _ ha => pe_un un_neg ha) does_neg ha
theorem E_nt (ha : EE X Γ mu a ea) : EE X Γ mu (.UnaryOp .Not a pos) (.u .nt ea) := E_u (fun _ ha => pe_notT ha) does_nt ha
theorem E_isNon {j : Nat} (hm : behindInMarks .Is (.Constant .none j p2) = false) (ha : EE X Γ mu a ea) : EE X Γ mu (.Compare a [.Is] [.Constant .none j p2] pos) (.u .isNon ea) := E_u (r := fun v H Q => V.non = .non ∧ Q (.bl (decide (v = .non))) H) (fun _ ha => pe_cmpR op_isN ha pe_non hm) (does_isNon.imp fun v H Q q => ⟨rfl, q⟩) ha
theorem E_isNotNon {j : Nat} (hm : behindInMarks .IsNot (.Constant .none j p2) = false) (ha : EE X Γ mu a ea) : EE X Γ mu (.Compare a [.IsNot] [.Constant .none j p2] pos) (.u .isNotNon ea) := E_u (r := fun v H Q => V.non = .non ∧ Q (.bl (!decide (v = .non))) H) (fun _ ha => pe_cmpR op_notN ha pe_non hm) (does_isNotNon.imp fun v H Q q => ⟨rfl, q⟩) ha
theorem evU_at : True := trivial
theorem PT_isNon {j : Nat} (hm : behindInMarks .Is (.Constant .none j p2) = false) (ha : EP X mu a ea) : EPT X mu (.Compare a [.Is] [.Constant .none j p2] pos) (.v (.u .isNon ea)) :=
  PTmono (pt_cmpR op_isN ha pe_non hm) fun σ H Q ⟨pn, δ, Fr, R, hp, s, h, q⟩ => ⟨pn, δ, Fr, _, hp, s, h, fun d v hr i => ⟨rfl, _, rfl, q _ (by rw [i.isNon]; exact hr)⟩⟩
theorem PT_isNotNon {j : Nat} (hm : behindInMarks .IsNot (.Constant .none j p2) = false) (ha : EP X mu a ea) : EPT X mu (.Compare a [.IsNot] [.Constant .none j p2] pos) (.v (.u .isNotNon ea)) :=
  PTmono (pt_cmpR op_notN ha pe_non hm) fun σ H Q ⟨pn, δ, Fr, R, hp, s, h, q⟩ => ⟨pn, δ, Fr, _, hp, s, h, fun d v hr i => ⟨rfl, _, rfl, q _ (by rw [i.isNon]; exact hr)⟩⟩
/-! ### isinstance -/
theorem pe_ty {n : String} {x : Str} (B : Blt X x) (hv : bootBuiltins x = some (.type n)) (hn : x ≠ "__name__") (hd : (x == ("__debug__" : Str)) = false) : PE X (.Name x p) (tC (.ty n)) := pe_bltn B.gl B.no hv rfl hn hd
theorem isi1 {t : Ty} {x : Str} (Bi : Blt X "isinstance") (B : Blt X x) (hv : bootBuiltins x = some (.type t.name)) (hn : x ≠ "__name__") (hd : (x == ("__debug__" : Str)) = false) (hs : noStar a = true) :
    ∀ ta, PE X a ta → PE X (.Call (.Name "isinstance" p) [a, .Name x p2] [] pos) (fun σ H Q => ta σ H fun v H1 => rIsi X.K [v, .ty t.name] H1 Q) := fun ta ha =>
  pe_callB call_isi Bi.gl Bi.no bn_isi (pa_cons ha (pa_cons (pe_ty B hv hn hd) pa_nil rfl) (noStar_star hs)) (by decide) (by decide) (noStar_star hs) rfl
theorem does_isiC {t : Ty} : Does1 X (fun v H Q => rIsi X.K [v, .ty t.name] H Q) (evIsi [t]) := does_isi1.imp fun v H Q ⟨tv, b, h1, h2, q⟩ => ⟨v, _, tv, _, b, rfl, .ty _, h1, h2, q⟩
theorem P_isi {t : Ty} {x : Str} (Bi : Blt X "isinstance") (B : Blt X x) (hv : bootBuiltins x = some (.type t.name)) (hn : x ≠ "__name__") (hd : (x == ("__debug__" : Str)) = false) (hs : noStar a = true) (ha : EP X mu a ea) :
    EP X mu (.Call (.Name "isinstance" p) [a, .Name x p2] [] pos) (.u (.isi [t]) ea) := P_u (isi1 Bi B hv hn hd hs) does_isiC ha
theorem In.same {K : PySem.W.Frag} {H H' : Hp} {L : List Res} {v : V} {d : D} (h : In K H L v d) (s : Same H H') : In K H' L v d := by
  obtain ⟨O, Z, OL, ZL, ⟨q, nd, ap⟩, r, h1, h2⟩ := h
  exact ⟨O, Z, OL, ZL, ⟨q.keep (.same s), nd, ap⟩, r.keep (.same s), h1, h2⟩
theorem In.ty2 {K : PySem.W.Frag} {H : Hp} {L : List Res} {v : V} {d : D} {t : Ty} {b : Bool} (h : In K H L v d) (e : isTy d t = some b) : ∃ tv, TyX K H v tv ∧ ∀ (t : Ty) (b : Bool), isTy d t = some b → PySem.W.kitOne K tv (.type t.name) = some b := by
  have key : ∀ (c t : Ty) (b : Bool), (c == t || (c == .bool && t == .int)) = b → PySem.W.kitOne K (.type c.name) (.type t.name) = some b := fun c t b hb => by
    rw [← hb]; exact kit_ty (kitB_all c t)
  unfold isTy at e ⊢
  split at e
  · obtain rfl := h.at; exact ⟨_, .base .non, fun t b e => by simp at e; subst e; exact kit_ty (kitB_non t)⟩
  · obtain rfl := h.at; exact ⟨_, .base (.bl _), fun t b e => key .bool t b (by simp at e; rw [← e]; cases t <;> rfl)⟩
  · obtain rfl := h.at; exact ⟨_, .base (.int _), fun t b e => key .int t b (by simp at e; rw [← e]; cases t <;> rfl)⟩
  · obtain rfl := h.at; exact ⟨_, .base (.str _), fun t b e => key .str t b (by simp at e; rw [← e]; cases t <;> rfl)⟩
  · obtain ⟨a, vs, rfl, hl, rd, _⟩ := h.nd
    exact ⟨.type "tuple", rd.elim (fun rd => .base (.tup rd)) fun ⟨_, rd⟩ => .fTuple rd, fun t b e => key .tuple t b (by simp at e; rw [← e]; cases t <;> rfl)⟩
  · obtain ⟨a, vs, rfl, hl, rd, _⟩ := h.nd
    refine ⟨.type "list", ?_, fun t b e => key .list t b (by simp at e; rw [← e]; cases t <;> rfl)⟩
    rcases rd with (rd | ⟨ob, rd⟩) | ⟨ob, its, n, rd, hc, _⟩
    · exact .base (.lst rd)
    · exact .base (.frz rd)
    · exact .kList rd hc
  · obtain ⟨a, vs, rfl, hl, rd, _⟩ := h.nd
    refine ⟨.type "dict", ?_, fun t b e => key .dict t b (by simp at e; rw [← e]; cases t <;> rfl)⟩
    rcases rd with rd | ⟨ob, rd⟩
    · exact .base (.dK rd)
    · exact .fDict rd
  · cases e
theorem E_isi2 {t u : Ty} {x y : Str} {k : Nat} {tp p3 : Pos} (Bi : Blt X "isinstance") (B : Blt X x) (hv : bootBuiltins x = some (.type t.name)) (hn : x ≠ "__name__") (hd : (x == ("__debug__" : Str)) = false)
    (B' : Blt X y) (hv' : bootBuiltins y = some (.type u.name)) (hn' : y ≠ "__name__") (hd' : (y == ("__debug__" : Str)) = false) (hs : noStar a = true) (ha : EP X mu a ea) :
    EE X Γ mu (.Call (.Name "isinstance" p) [a, .Tuple [.Name x p2, .Name y p3] k tp] [] pos) (.vu (.isi [t, u]) ea) := by
  refine PEmono (pe_callB call_isiT Bi.gl Bi.no bn_isi (pa_cons ha (pa_cons (pe_tup (pa_cons (pe_ty B hv hn hd) (pa_cons (pe_ty B' hv' hn' hd') pa_nil rfl) rfl)) pa_nil rfl) (noStar_star hs)) (by decide) (by decide) (noStar_star hs) rfl) ?_
  intro σ H Q ⟨pn, δ, Fr, R, hp, s, h, q⟩
  refine ⟨pn, δ, Fr, fun d => evIsi [t, u] d fun r => r.froz = true ∧ R r δ, hp, s, h, fun d v ⟨b, c, e1, e2, hr⟩ i => ⟨by show 2 ≤ sizeLine; decide, fun T nT => ?_⟩⟩
  have sm := same_new (o := .tup [.ty t.name, .ty u.name]) nT
  have i2 := i.same sm
  obtain ⟨tv, ht, k1⟩ := i2.ty2 e1
  refine ⟨v, T, _, tv, _, b || c, rfl, upd_same, .cons (.ty _) (.cons (.ty _) .nil), ht, ?_, q _ δ _ _ hr.2 ?_⟩
  · have q1 := k1 _ _ e1
    have q2 := k1 _ _ e2
    simp only [PySem.W.kitAny, q1, q2]
    cases b <;> cases c <;> rfl
  · exact s.of ((s.front.same sm).mkat)
end
end Z
set_option Elab.async false
set_option linter.all false
set_option maxRecDepth 100000
set_option autoImplicit false
namespace Z
open PySem PySem.Spec PyProof.Rows L2
section
variable {X : Cx} {Γ : Nat → Ct} {mu : List Nat} {a b c o ex : Expr} {ea eb ec eo : E} {pos p apos p2 : Pos} {t1 t2 : T} {x : Str} {i : Nat}
/-! ### tests -/
theorem PT_v (hp : plainT ex = true) (h : EP X mu ex ea) : EPT X mu ex (.v ea) := pt_v hp h
theorem T_v (hp : plainT ex = true) (h : EE X Γ mu ex ea) : ET X Γ mu ex (.v ea) := et_v hp h
theorem PT_not (h : EPT X mu a t1) : EPT X mu (.UnaryOp .Not a pos) (.not t1) := ptn h
theorem T_not (h : ET X Γ mu a t1) : ET X Γ mu (.UnaryOp .Not a pos) (.not t1) := etn h
theorem T_pt (h : EPT X mu a t1) : ET X Γ mu a (.pt t1) := et_pt h
theorem PW_and1 (h : EPT X mu a t1) : EPW X mu (.BoolOp .And [a] pos) t1 := pw_and1 h
theorem PW_or1 (h : EPT X mu a t1) : EPW X mu (.BoolOp .Or [a] pos) t1 := pw_or1 h
theorem W_and1 (h : ET X Γ mu a t1) : EW X Γ mu (.BoolOp .And [a] pos) t1 := pw_and1 h
theorem W_or1 (h : ET X Γ mu a t1) : EW X Γ mu (.BoolOp .Or [a] pos) t1 := pw_or1 h
theorem PW_and {r : List Expr} (h1 : EPT X mu a t1) (h2 : EPW X mu (.BoolOp .And (b :: r) pos) t2) : EPW X mu (.BoolOp .And (a :: b :: r) pos) (.and t1 t2) := pt_and h1 h2
theorem PW_or {r : List Expr} (h1 : EPT X mu a t1) (h2 : EPW X mu (.BoolOp .Or (b :: r) pos) t2) : EPW X mu (.BoolOp .Or (a :: b :: r) pos) (.or t1 t2) := pt_or h1 h2
theorem W_and {r : List Expr} (h1 : ET X Γ mu a t1) (h2 : EW X Γ mu (.BoolOp .And (b :: r) pos) t2) : EW X Γ mu (.BoolOp .And (a :: b :: r) pos) (.and t1 t2) := et_and h1 h2
theorem W_or {r : List Expr} (h1 : ET X Γ mu a t1) (h2 : EW X Γ mu (.BoolOp .Or (b :: r) pos) t2) : EW X Γ mu (.BoolOp .Or (a :: b :: r) pos) (.or t1 t2) := et_or h1 h2
theorem PT_w (h : EPW X mu a t1) : EPT X mu a t1 := h.pt
theorem T_w (h : EW X Γ mu a t1) : ET X Γ mu a t1 := h.pt
theorem PT_din (hu : X.A.units + 1 < cLine) (hm : behindInMarks .In b = false) (ha : EP X mu a ea) (hb : EP X mu b eb) : EPT X mu (.Compare a [.In] [b] pos) (.v (.din false ea eb)) :=
  PTmono (pt_din hu hm ha hb) fun σ H Q h => h
theorem PT_dnotin (hu : X.A.units + 1 < cLine) (hm : behindInMarks .NotIn b = false) (ha : EP X mu a ea) (hb : EP X mu b eb) : EPT X mu (.Compare a [.NotIn] [b] pos) (.v (.din true ea eb)) :=
  PTmono (pt_dnotin hu hm ha hb) fun σ H Q h => h
/-! ### values -/
theorem P_ite (hc : EPT X mu c t1) (ha : EP X mu a ea) (hb : EP X mu b eb) : EP X mu (.IfExp c a b pos) (.ite t1 ea eb) := p_ite hc ha hb
theorem E_ite (hc : ET X Γ mu c t1) (ha : EE X Γ mu a ea) (hb : EE X Γ mu b eb) : EE X Γ mu (.IfExp c a b pos) (.ite t1 ea eb) := e_ite hc ha hb
theorem P_and {r : List Expr} (ha : EP X mu a ea) (hb : EP X mu (.BoolOp .And (b :: r) pos) eb) : EP X mu (.BoolOp .And (a :: b :: r) pos) (.andV ea eb) := p_and ha hb
theorem P_or {r : List Expr} (ha : EP X mu a ea) (hb : EP X mu (.BoolOp .Or (b :: r) pos) eb) : EP X mu (.BoolOp .Or (a :: b :: r) pos) (.orV ea eb) := p_or ha hb
theorem E_and {r : List Expr} (ha : EE X Γ mu a ea) (hb : EE X Γ mu (.BoolOp .And (b :: r) pos) eb) : EE X Γ mu (.BoolOp .And (a :: b :: r) pos) (.andV ea eb) := e_and ha hb
theorem E_or {r : List Expr} (ha : EE X Γ mu a ea) (hb : EE X Γ mu (.BoolOp .Or (b :: r) pos) eb) : EE X Γ mu (.BoolOp .Or (a :: b :: r) pos) (.orV ea eb) := e_or ha hb
theorem P_dget (hu : X.A.units + 1 < cLine) (hs : noLc b = true) (ha : EP X mu a ea) (hb : EP X mu b eb) : EP X mu (.Subscript a b pos) (.dget ea eb) := p_dget hu (noLc_sl hs) ha hb
theorem P_din (hu : X.A.units + 1 < cLine) (hm : behindInMarks .In b = false) (ha : EP X mu a ea) (hb : EP X mu b eb) : EP X mu (.Compare a [.In] [b] pos) (.din false ea eb) := p_din hu hm ha hb
theorem P_dnotin (hu : X.A.units + 1 < cLine) (hm : behindInMarks .NotIn b = false) (ha : EP X mu a ea) (hb : EP X mu b eb) : EP X mu (.Compare a [.NotIn] [b] pos) (.din true ea eb) := p_dnotin hu hm ha hb
/-! ### arguments -/
variable {es : List Expr} {fs : Es} {bs : List (Nat × Nat)}
theorem A_nil : EA X Γ mu [] [] .nil := ea_nil
theorem A_cons (hs : noStar ex = true) (h : EE X Γ mu ex ea) (hr : EA X Γ mu bs es fs) : EA X Γ mu (bs.map fun p => (p.1 + 1, p.2)) (ex :: es) (.cons ea fs) := ea_cons hs h hr
theorem A_mv {x : Str} (i : Nat) (hN : X.N[i]? = some x) (hv : Vis X.env.scope x) (hd : (x == ("__debug__" : Str)) = false) (hcd : (x == ("__classdict__" : Str)) = false) (hr : EA X Γ mu bs es fs) :
    EA X Γ mu ((0, i) :: bs.map fun p => (p.1 + 1, p.2)) (.Name x pos :: es) (.cons (.mv i) fs) := ea_mv hN hv hd hcd hr
theorem A_ml {x : Str} (i : Nat) (hN : X.N[i]? = some x) (hv : Vis X.env.scope x) (hd : (x == ("__debug__" : Str)) = false) (hcd : (x == ("__classdict__" : Str)) = false) (hr : EA X Γ mu bs es fs) :
    EA X Γ mu ((0, i) :: bs.map fun p => (p.1 + 1, p.2)) (.Name x pos :: es) (.consL i fs) := ea_ml hN hv hd hcd hr
theorem E_tup {k : Nat} (h : EA X Γ mu bs es fs) : EE X Γ mu (.Tuple es k pos) (.tup fs) := e_tup h
theorem E_lst (h : EA X Γ mu bs es fs) : EE X Γ mu (.List es pos) (.lst fs) := e_lst h
theorem E_dic (t : Bool) : EE X Γ mu (.Dict [] [] pos) (.dic t) := e_dic
theorem E_cat (ha : EE X Γ mu a ea) (hb : EE X Γ mu b eb) : EE X Γ mu (.BinOp a .Add b pos) (.cat ea eb) := e_cat ha hb
theorem O_none : EO X Γ mu none .none := o_none
theorem O_some (h : EE X Γ mu a ea) : EO X Γ mu (some a) (.some ea) := o_some h
theorem E_slc {lo hi : Option Expr} {l h : O} (ha : EE X Γ mu a ea) (hl : EO X Γ mu lo l) (hh : EO X Γ mu hi h) : EE X Γ mu (.Subscript a (.Slice lo hi none p2) pos) (.slc ea l h) := e_slc ha hl hh
theorem E_call {x : Str} {n : Nat} {mp : Option Nat} {f : Nat} (m : Option (Nat × Nat)) {kw : List (List Str × List Nat)} (F : FnX X x n mp kw (Γ f)) (hg : Gl X x) (hdb : (x == ("__debug__" : Str)) = false) (hs : (ex :: es).all noStar = true) (hm : ∀ k i, m = some (k, i) → mp = some k ∧ (k, i) ∈ bs) (ha : EA X Γ mu bs (ex :: es) fs) :
    EE X Γ mu (.Call (.Name x p) (ex :: es) [] pos) (.call f fs m) := e_call F hg hdb hs hm ha
theorem E_av {op : A1} {r : R1} (hs : ∀ ta, PE X a ta → PE X ex (fun σ H Q => ta σ H fun x H1 => r x H1 Q)) (hd : DoesA X r (evA1 op)) (ha : EP X mu a ea) : EE X Γ mu ex (.av op ea) := e_av (ev := evA1 op) (wp := wpP ea) hs hd ha
theorem E_a1 {op : A1} {r : R1} (hs : ∀ ta, PE X a ta → PE X ex (fun σ H Q => ta σ H fun x H1 => r x H1 Q)) (hd : DoesA X r (evA1 op)) (ha : EE X Γ mu a ea) : EE X Γ mu ex (.a1 op ea) := e_a1 (ev := evA1 op) (we := wpE Γ ea) hs hd ha
theorem tupleOf_eta {K : PySem.W.Frag} {v : V} {H : Hp} {Q : VK} (h : ∃ p ys, v = .ref p ∧ ((SqL K H p ys ∧ ∀ l, H l = none → Q (.ref l) (upd H l (.tup ys))) ∨ (SqT K H p ys ∧ Q (.ref p) H))) :
    ∃ p ys, [v] = [V.ref p] ∧ ((SqL K H p ys ∧ ∀ l, H l = none → Q (.ref l) (upd H l (.tup ys))) ∨ (SqT K H p ys ∧ Q (.ref p) H)) := by
  obtain ⟨p, ys, h1, h2⟩ := h
  exact ⟨p, ys, by rw [h1], h2⟩
theorem listOf_eta {K : PySem.W.Frag} {v : V} {H : Hp} {Q : VK} (h : ∃ p ys, v = .ref p ∧ (SqL K H p ys ∨ SqT K H p ys) ∧ ∀ l, H l = none → Q (.ref l) (upd H l (.lst ys))) :
    ∃ p ys, [v] = [V.ref p] ∧ (SqL K H p ys ∨ SqT K H p ys) ∧ ∀ l, H l = none → Q (.ref l) (upd H l (.lst ys)) := by
  obtain ⟨p, ys, h1, h2⟩ := h
  exact ⟨p, ys, by rw [h1], h2⟩
theorem E_tupleOf (B : Blt X "tuple") (hs : noStar a = true) (ha : EE X Γ mu a ea) : EE X Γ mu (.Call (.Name "tuple" p) [a] [] pos) (.a1 .tupleOf ea) := E_a1 (callT1 call_tuple_of B bn_tuple hs (by decide) (by decide)) (does_tupleOf.imp fun _ _ _ => tupleOf_eta) ha
theorem E_tupleOfV (B : Blt X "tuple") (hs : noStar a = true) (ha : EP X mu a ea) : EE X Γ mu (.Call (.Name "tuple" p) [a] [] pos) (.av .tupleOf ea) := E_av (callT1 call_tuple_of B bn_tuple hs (by decide) (by decide)) (does_tupleOf.imp fun _ _ _ => tupleOf_eta) ha
theorem E_listOf (B : Blt X "list") (hs : noStar a = true) (ha : EE X Γ mu a ea) : EE X Γ mu (.Call (.Name "list" p) [a] [] pos) (.a1 .listOf ea) := E_a1 (callT1 call_list_of B bn_list hs (by decide) (by decide)) (does_listOf.imp fun _ _ _ => listOf_eta) ha
theorem E_listOfV (B : Blt X "list") (hs : noStar a = true) (ha : EP X mu a ea) : EE X Γ mu (.Call (.Name "list" p) [a] [] pos) (.av .listOf ea) := E_av (callT1 call_list_of B bn_list hs (by decide) (by decide)) (does_listOf.imp fun _ _ _ => listOf_eta) ha
theorem E_dgetD {x : Str} (i : Nat) (hu : X.A.units + 1 < cLine) (hN : X.N[i]? = some x) (hv : Vis X.env.scope x) (hd : (x == ("__debug__" : Str)) = false) (hcd : (x == ("__classdict__" : Str)) = false) (m : M2 X (.Name x p) "get" apos a b pos) (ha : EE X Γ mu a ea) (hb : EE X Γ mu b eb) :
    EE X Γ mu (.Call (.Attribute (.Name x p) "get" apos) [a, b] [] pos) (.dgetD i ea eb) := e_dgetD hu hN hv hd hcd m ha hb
/-! ### methods of lists -/
/-- an argument list that a method's call takes -/
structure Few (X : Cx) (es : List Expr) (cpos : Pos) : Prop where
  few : ((backTo cpos (starEach es X.env)).all (fun x => !x.1) && (backToKw cpos (keywordEach [] X.env)).all (fun x => x.1.isSome)
      && decide (es.length + ([] : List Keyword).length + (if ([] : List Keyword).isEmpty then 0 else 1) < 30)) = true
theorem E_append {x : Str} (i : Nat) (hN : X.N[i]? = some x) (hv : Vis X.env.scope x) (hd : (x == ("__debug__" : Str)) = false) (hcd : (x == ("__classdict__" : Str)) = false) (hf : Few X [ex] pos) (hl : (apos.endLine == pos.line) = true) (hs : [ex].all noStar = true) (ha : EA X Γ mu bs [ex] fs) :
    EE X Γ mu (.Call (.Attribute (.Name x p) "append" apos) [ex] [] pos) (.mth .append i fs) := e_mth (Γ := Γ) PySem.F.plainAttrs_list PySem.F.slot_list_append PySem.F.type_list_append mt_append does_append hN hv hd hcd ha hf.few hl hs
theorem E_pop {x : Str} (i : Nat) (hN : X.N[i]? = some x) (hv : Vis X.env.scope x) (hd : (x == ("__debug__" : Str)) = false) (hcd : (x == ("__classdict__" : Str)) = false) (hl : (apos.endLine == pos.line) = true) :
    EE X Γ mu (.Call (.Attribute (.Name x p) "pop" apos) [] [] pos) (.mth .pop i .nil) := e_mth0 (Γ := Γ) PySem.F.plainAttrs_list PySem.F.slot_list_pop PySem.F.type_list_pop mt_pop does_pop hN hv hd hcd hl
theorem E_popAt {x : Str} (i : Nat) (hN : X.N[i]? = some x) (hv : Vis X.env.scope x) (hd : (x == ("__debug__" : Str)) = false) (hcd : (x == ("__classdict__" : Str)) = false) (hf : Few X [ex] pos) (hl : (apos.endLine == pos.line) = true) (hs : [ex].all noStar = true) (ha : EA X Γ mu bs [ex] fs) :
    EE X Γ mu (.Call (.Attribute (.Name x p) "pop" apos) [ex] [] pos) (.mth .popAt i fs) := e_mth (Γ := Γ) PySem.F.plainAttrs_list PySem.F.slot_list_pop PySem.F.type_list_pop mt_popAt does_popAt hN hv hd hcd ha hf.few hl hs
theorem E_insert {x : Str} (i : Nat) (hN : X.N[i]? = some x) (hv : Vis X.env.scope x) (hd : (x == ("__debug__" : Str)) = false) (hcd : (x == ("__classdict__" : Str)) = false) (hf : Few X (ex :: es) pos) (hl : (apos.endLine == pos.line) = true) (hs : (ex :: es).all noStar = true) (ha : EA X Γ mu bs (ex :: es) fs) :
    EE X Γ mu (.Call (.Attribute (.Name x p) "insert" apos) (ex :: es) [] pos) (.mth .insert i fs) := e_mth (Γ := Γ) PySem.F.plainAttrs_list PySem.F.slot_list_insert PySem.F.type_list_insert mt_insert does_insert hN hv hd hcd ha hf.few hl hs
theorem E_popN {π : List Int} {i : Nat} (ho : PE X o (tPath X.K i π)) (hb : attributeBase o "pop" X.env (eval o X.env) = eval o X.env) (hl : (apos.endLine == pos.line) = true) :
    EE X Γ mu (.Call (.Attribute o "pop" apos) [] [] pos) (.mthN .pop i π none) := e_mthN0 PySem.F.plainAttrs_list PySem.F.slot_list_pop PySem.F.type_list_pop mt_pop does_pop ho hb hl
theorem E_popAtN {π : List Int} {i : Nat} {c : Int} {cx : Expr} (ho : PE X o (tPath X.K i π)) (hc : PE X cx (tC (.int c))) (hs : noStar cx = true) (hb : attributeBase o "pop" X.env (eval o X.env) = eval o X.env) (hf : Few X [cx] pos) (hl : (apos.endLine == pos.line) = true) :
    EE X Γ mu (.Call (.Attribute o "pop" apos) [cx] [] pos) (.mthN .popAt i π (some c)) := e_mthN PySem.F.plainAttrs_list PySem.F.slot_list_pop PySem.F.type_list_pop mt_popAt does_popAt ho hc hs hb hf.few hl
theorem Q_0 {x : Str} (i : Nat) (hN : X.N[i]? = some x) (hv : Vis X.env.scope x) (hd : (x == ("__debug__" : Str)) = false) (hcd : (x == ("__classdict__" : Str)) = false) : PE X (.Name x pos) (tPath X.K i []) := p_path0 hN hv hd hcd
theorem Q_1 {i : Nat} {π : List Int} {c : Int} {k : Nat} (ha : PE X a (tPath X.K i π)) : PE X (.Subscript a (.Constant (.int c) k p2) pos) (tPath X.K i (π ++ [c])) := p_path1 ha pe_int (fun _ _ => rfl)
/-! ### walks -/
variable {tg : Expr} {elts : List Expr} {kk : Nat} {tpos : Pos}
theorem I_seq (ha : EE X Γ mu a ea) : EI X Γ mu tg a (.seq ea) := i_seq ha
theorem I_str (ha : EE X Γ mu a ea) : EI X Γ mu tg a (.str ea) := i_str ha
theorem I_rng (B : Blt X "range") (hs : noStar a = true) (ha : EE X Γ mu a ea) : EI X Γ mu tg (.Call (.Name "range" p) [a] [] pos) (.rng ea) := i_rng B.gl B.no hs ha
theorem I_zip (B : Blt X "zip") (hs1 : noStar a = true) (hs2 : noStar b = true) (ha : EE X Γ mu a ea) (hb : EE X Γ mu b eb) : EI X Γ mu (.Tuple elts kk tpos) (.Call (.Name "zip" p) [a, b] [] pos) (.zip ea eb) := i_zip B.gl B.no hs1 hs2 ha hb
theorem I_enum (B : Blt X "enumerate") (hs : noStar a = true) (ha : EE X Γ mu a ea) : EI X Γ mu (.Tuple elts kk tpos) (.Call (.Name "enumerate" p) [a] [] pos) (.enum ea) := i_enum B.gl B.no hs ha
/-! ### comprehensions -/
theorem E_comp {it : It} {g : G} {t : OT} {e : E} {ns : List Nat} {elt iter : Expr} {ifs : List Expr} {scope : Scope} (own : List (Str × Nat)) {tt : TT} (ho : ∀ i ∈ own.map (·.2), i ∉ mu) (hns : ∀ i ∈ ns, i ∈ own.map (·.2)) (hc : X.calm = true) (hN : X.N.Nodup) (hi : EI X Γ mu tg iter it) (ok : BlkOk X.N X.env.scope scope own)
    (hg : ∀ (s : Shared) (H : Hp) (C : Addr) (cl : List (Str × Addr)) (fp : List Addr), EG (X.blk s H scope (compEnvC scope cl C X.env) fp) mu ns tg g)
    (ht : ∀ (s : Shared) (H : Hp) (C : Addr) (cl : List (Str × Addr)) (fp : List Addr), PTs (X.blk s H scope (compEnvC scope cl C X.env) fp) ifs (liftT X.K mu (wpOT Γ t)))
    (he : ∀ (s : Shared) (H : Hp) (C : Addr) (cl : List (Str × Addr)) (fp : List Addr), EE (X.blk s H scope (compEnvC scope cl C X.env) fp) Γ mu elt e) (hs : ∀ x, foldedSetIterable iter X.env x = pure x) :
    EE X Γ mu (.ListComp elt [⟨tg, iter, ifs, 0⟩] scope pos) (.comp (own.map (·.2)) it g t e) :=
  PEmono (pe_lc hc hN hi ok hg ht he hs) fun σ H Q h => comp_ok ho hns h
end
end Z
set_option Elab.async false
set_option linter.all false
set_option maxRecDepth 100000
set_option autoImplicit false
namespace Z
open PySem PySem.Spec PyProof.Rows L2
section
variable {X : Cx} {Γ : Nat → Ct} {mu : List Nat} {a b c o ex : Expr} {ea eb ec eo : E} {pos p apos p2 : Pos} {t1 t2 : T} {x : Str} {i : Nat}
theorem TS_none {X' : Cx} : PTs X' [] (liftT X'.K mu (wpOT Γ .none)) := ⟨fun pins s σ H Q I ⟨pn, δ, Fr, R, hp, sm, h, q⟩ => pts_nil.run pins s σ H Q I (q true δ H h sm)⟩
theorem TS_one {X' : Cx} (h : ET X' Γ mu c t1) : PTs X' [c] (liftT X'.K mu (wpOT Γ (.some t1))) := pts_one h
theorem E_compK {g : G} {t : OT} {e : E} {ns : List Nat} {elt tg : Expr} {ifs : List Expr} {scope : Scope} {x : Str} (own : List (Str × Nat)) (i : Nat) (hi : i ∉ own.map (·.2)) (ho : ∀ i ∈ own.map (·.2), i ∉ mu) (hns : ∀ i ∈ ns, i ∈ own.map (·.2)) (hc : X.calm = true) (hN : X.N.Nodup)
    (hx : X.N[i]? = some x) (hv : Vis X.env.scope x) (hd : (x == ("__debug__" : Str)) = false) (hcd : (x == ("__classdict__" : Str)) = false) (ok : BlkOk X.N X.env.scope scope own)
    (hg : ∀ (s : Shared) (H : Hp) (C : Addr) (cl : List (Str × Addr)) (fp : List Addr), EG (X.blk s H scope (compEnvC scope cl C X.env) fp) mu ns tg g)
    (ht : ∀ (s : Shared) (H : Hp) (C : Addr) (cl : List (Str × Addr)) (fp : List Addr), PTs (X.blk s H scope (compEnvC scope cl C X.env) fp) ifs (liftT X.K mu (wpOT Γ t)))
    (he : ∀ (s : Shared) (H : Hp) (C : Addr) (cl : List (Str × Addr)) (fp : List Addr), EE (X.blk s H scope (compEnvC scope cl C X.env) fp) Γ mu elt e) :
    EE X Γ mu (.ListComp elt [⟨tg, .Name x p, ifs, 0⟩] scope pos) (.compK (own.map (·.2)) i g t e) :=
  PEmono (pe_lock (pe_lc hc hN (pi_keys (pe_var hx hv hd hcd)) ok hg ht he (by intro _; rfl))) fun σ H Q h => compK_ok hi ho hns h
/-! ### targets -/
theorem G_name {x : Str} (i : Nat) (hN : X.N.Nodup) (hi : X.N[i]? = some x) (hx : Loc X.env.scope x) (hf : X.fn x = true ∨ X.env.scope.names.lookup x = some .local) (hm : i ∉ mu) : EG X mu [i] (.Name x pos) (.name i) := g_name hN hi hx hf hm
theorem GS_nil : EGs X mu [] [] [] := gs_nil
theorem GS_cons {es : List Expr} {g : G} {gs : List G} {ns ms : List Nat} (h1 : EG X mu ns ex g) (h2 : EGs X mu ms es gs) (hs : assignEach (ex :: es) X.env = (false, assign ex X.env) :: assignEach es X.env) : EGs X mu (ns ++ ms) (ex :: es) (g :: gs) := gs_cons h1 h2 hs
theorem G_tup {es : List Expr} {gs : List G} {k : Nat} {ns : List Nat} {n : Nat} (hc : X.calm = true) (h : EGs X mu ns es gs) (hg : gs.length = n) (hn : (assignEach es X.env).length = n) (hst : (assignEach es X.env).findIdx? (·.1) = none) : EG X mu ns (.Tuple es k pos) (.tup gs) := g_tup hc h hg hn hst
/-! ### statements -/
variable {st : Stmt} {sts sts' : List Stmt} {s s' : S} {ss ss' : Ss}
theorem S_set {x : Str} (i : Nat) (hN : X.N.Nodup) (hi : X.N[i]? = some x) (hx : Loc X.env.scope x) (hf : X.fn x = true ∨ X.env.scope.names.lookup x = some .local) (hm : i ∉ mu) (he : EE X Γ mu ex ea) (hs : swapsWith ex (some (.Name x p)) pos.line X.env = pure false) :
    ES X Γ mu (.Assign [.Name x p] ex pos) (.set i ea) := fun W _ => s_set hN hi hx hf hm he hs
theorem S_asg {tg : Expr} {g : G} {ns : List Nat} (he : EE X Γ mu ex ea) (hg : EG X mu ns tg g) (hs : swapsWithSole [tg] ex pos.line X.env = pure false) (hw : swappedStores [tg] ex X.env = pure none) (h1 : (assignEach [tg] X.env).map (·.2) = [assign tg X.env]) :
    ES X Γ mu (.Assign [tg] ex pos) (.asg g ea) := fun W _ => s_asg he hg hs hw h1
theorem S_ex (he : EE X Γ mu ex ea) (hs : swapsWith ex none pos.line X.env = pure false) : ES X Γ mu (.Expr ex pos) (.ex ea) := fun W _ => s_ex he hs
theorem S_ret (he : EE X Γ mu ex ea) : ES X Γ mu (.Return (some ex) pos) (.ret ea) := fun W _ => s_ret he
theorem S_brk : ES X Γ mu (.Break pos) .brk := fun W _ => s_brk
theorem S_cnt : ES X Γ mu (.Continue pos) .cnt := fun W _ => s_cnt
theorem S_pass : ES X Γ mu (.Pass pos) .pass := fun W _ => s_pass
theorem S_if (hc : ET X Γ mu c t1) (h1 : ESs X Γ mu sts ss) (h2 : ESs X Γ mu sts' ss') : ES X Γ mu (.If c sts sts' pos) (.ite t1 ss ss') := fun W t => s_if hc (h1 W t) (h2 W t)
theorem SS_nil : ESs X Γ mu [] .nil := fun W _ => ss_nil
theorem SS_cons (h1 : ES X Γ mu st s) (h2 : ESs X Γ mu sts ss) : ESs X Γ mu (st :: sts) (.cons s ss) := fun W t => ss_cons (h1 W t) (h2 W t)
theorem S_while (hx : PassesOwn (model X.prog X.w) X.A X.env X.xe) (hc : ET X Γ mu c t1) (h1 : ESs X Γ mu sts ss) : ES X Γ mu (.While c sts [] pos) (.whl t1 ss) := fun W t => s_while hx hc (h1 W t)
theorem S_for {tg iter : Expr} {g : G} {ns : List Nat} {it : It} (hx : PassesOwn (model X.prog X.w) X.A X.env X.xe) (hc : X.calm = true) (hi : EI X Γ mu tg iter it) (hg : EG X mu ns tg g) (h1 : ESs X Γ mu sts ss) (hs : ∀ x, foldedSetIterable iter X.env x = pure x) :
    ES X Γ mu (.For tg iter sts [] pos) (.fr g it ss) := fun W t => s_for hx hc hi hg (h1 W t) hs
theorem S_setIx {π : List Int} {pos' : Pos} {e : E} (i : Nat) (ho : PE X o (tPath X.K i π)) (hk : EP X mu a ea) (he : EE X Γ mu ex e) (hs : swapsWith ex (some (.Subscript o a pos')) pos.line X.env = pure false)
    (hw : swappedStores [.Subscript o a pos'] ex X.env = pure none) (h1 : (assignEach [.Subscript o a pos'] X.env).map (·.2) = [assign (.Subscript o a pos') X.env])
    (ha : ∀ v, assign (.Subscript o a pos') X.env v = (do
      let ov ← holding [v] (eval o X.env)
      let iv ← holding [v, ov] (eval a X.env)
      standAt pos'
      holding [v, ov, iv] (setItem ov iv v)
      release [v, ov, iv] [])) : ES X Γ mu (.Assign [.Subscript o a pos'] ex pos) (.setIx i π ea e) := fun W _ => s_setIx ho hk he hs hw h1 ha
theorem S_dput {x : Str} {pos' : Pos} {e : E} (i : Nat) (hu : X.A.units + 1 < cLine) (hN : X.N[i]? = some x) (hv : Vis X.env.scope x) (hd : (x == ("__debug__" : Str)) = false) (hcd : (x == ("__classdict__" : Str)) = false) (hk : EE X Γ mu a ea) (he : EE X Γ mu ex e) (hs : swapsWith ex (some (.Subscript (.Name x p) a pos')) pos.line X.env = pure false) :
    ES X Γ mu (.Assign [.Subscript (.Name x p) a pos'] ex pos) (.dput i ea e) := fun W _ => s_dput hu hN hv hd hcd hk he hs
/-- name = [..] -/
theorem S_setComp {it : It} {g : G} {t : OT} {e : E} {ns : List Nat} {elt tg iter : Expr} {ifs : List Expr} {scope : Scope} {y : Str} {py spos : Pos} (i : Nat) (own : List (Str × Nat)) (hm : i ∉ mu) (ho : ∀ i ∈ own.map (·.2), i ∉ mu) (hns : ∀ i ∈ ns, i ∈ own.map (·.2)) (hc : X.calm = true) (hN : X.N.Nodup)
    (hy : X.N[i]? = some y) (hyl : X.env.scope.names.lookup y = some .local) (hsw : swapsWith (.ListComp elt [⟨tg, iter, ifs, 0⟩] scope pos) (some (.Name y py)) spos.line X.env = pure true) (hi : EI X Γ mu tg iter it) (ok : BlkOk X.N X.env.scope scope own)
    (hg : ∀ (s : Shared) (H : Hp) (C : Addr) (cl : List (Str × Addr)) (fp : List Addr), EG (X.blk s H scope (compEnvC scope cl C X.env) fp) mu ns tg g)
    (ht : ∀ (s : Shared) (H : Hp) (C : Addr) (cl : List (Str × Addr)) (fp : List Addr), PTs (X.blk s H scope (compEnvC scope cl C X.env) fp) ifs (liftT X.K mu (wpOT Γ t)))
    (he : ∀ (s : Shared) (H : Hp) (C : Addr) (cl : List (Str × Addr)) (fp : List Addr), EE (X.blk s H scope (compEnvC scope cl C X.env) fp) Γ mu elt e) (hs : ∀ x, foldedSetIterable iter X.env x = pure x) :
    ES X Γ mu (.Assign [.Name y py] (.ListComp elt [⟨tg, iter, ifs, 0⟩] scope pos) spos) (.set i (.comp (own.map (·.2)) it g t e)) :=
  fun W _ => PSmono (ps_setLc (i := i) hc hN hy hyl hsw hi ok hg ht he hs) fun Dn σ H ⟨pn, δ, Fr, R, hp, s, h, q, _⟩ =>
    comp_ok (mu := mu) (wi := wpIt Γ it) (g := wpG g) (t := wpOT Γ t) (e := wpE Γ e) (Q := fun v H' => Dn.nx (σ.set i (some v)) H') ho hns ⟨pn, δ, Fr, fun d δ1 => R (.nx (δ1.set i (some d))), hp, s, h, fun d δ' v H' hr s' => q _ _ _ hr (s'.put' (pn_ne hp hm))⟩
/-- a, b = x, y -/
theorem S_par {x y : Str} {px py pt : Pos} {kt k2 : Nat} {pt2 : Pos} {bs : List (Nat × Nat)} (i j : Nat) (hc : X.calm = true) (hN : X.N.Nodup) (hi : X.N[i]? = some x) (hj : X.N[j]? = some y) (hij : i ≠ j) (hx : X.env.scope.names.lookup x = some .local) (hy : X.env.scope.names.lookup y = some .local)
    (hmi : i ∉ mu) (hmj : j ∉ mu) (ha : EA X Γ mu bs [a, b] (.cons ea (.cons eb .nil))) (hw : swappedStores [.Tuple [.Name x px, .Name y py] kt pt] (.Tuple [a, b] k2 pt2) X.env = pure (some [x, y])) (hs : swapsWithSole [.Tuple [.Name x px, .Name y py] kt pt] (.Tuple [a, b] k2 pt2) pos.line X.env = pure false) :
    ES X Γ mu (.Assign [.Tuple [.Name x px, .Name y py] kt pt] (.Tuple [a, b] k2 pt2) pos) (.par i j ea eb) :=
  fun W _ => PSmono (ps_par hc hN hi hj hij hx hy ha hw hs) fun Dn σ H ⟨pn, δ, Fr, R, hp, s, h, q, _⟩ => ⟨pn, δ, Fr, fun ds δ2 => ∃ x y, ds = [x, y] ∧ R (.nx ((δ2.set i (some x)).set j (some y))), hp, s, by
    have h : wpE Γ ea δ fun x δ1 => wpE Γ eb δ1 fun y δ2 => R (.nx ((δ2.set i (some x)).set j (some y))) := h
    show wpE Γ ea δ fun x δ1 => wpE Γ eb δ1 fun y δ2 => ∃ x' y', [x, y] = [x', y'] ∧ R (.nx ((δ2.set i (some x')).set j (some y')))
    have e : ∀ (x y : D) (δ2 : Env), (∃ x' y', [x, y] = [x', y'] ∧ R (.nx ((δ2.set i (some x')).set j (some y')))) = R (.nx ((δ2.set i (some x)).set j (some y))) := fun x y δ2 => propext ⟨fun ⟨x', y', e, h⟩ => by cases e; exact h, fun h => ⟨x, y, rfl, h⟩⟩
    simp only [e]
    exact h, fun ds δ1 vs H1 ⟨x, y, e, hr⟩ hl hb s1 => by
    subst e
    match vs, hl with
    | [v, w], _ =>
      refine ⟨v, w, rfl, q _ _ _ hr ?_⟩
      have s2 : Sim X.K pn (σ.set i (some v)) (δ1.set i (some x)) (.val w y :: Fr) H1 := Sim.put' (show Sim X.K pn σ δ1 (.val v x :: .val w y :: Fr) H1 from s1) (pn_ne hp hmi)
      exact s2.put' (pn_ne hp hmj)⟩
theorem S_par3 {x y z : Str} {px py pz pt : Pos} {kt k2 : Nat} {pt2 : Pos} {bs : List (Nat × Nat)} (i j l : Nat) (hc : X.calm = true) (hN : X.N.Nodup) (hi : X.N[i]? = some x) (hj : X.N[j]? = some y) (hl : X.N[l]? = some z) (hij : i ≠ j) (hil : i ≠ l) (hjl : j ≠ l)
    (hx : X.env.scope.names.lookup x = some .local) (hy : X.env.scope.names.lookup y = some .local) (hz : X.env.scope.names.lookup z = some .local) (hmi : i ∉ mu) (hmj : j ∉ mu) (hml : l ∉ mu) (ha : EA X Γ mu bs [a, b, c] (.cons ea (.cons eb (.cons ec .nil))))
    (hw : swappedStores [.Tuple [.Name x px, .Name y py, .Name z pz] kt pt] (.Tuple [a, b, c] k2 pt2) X.env = pure (some [x, y, z])) (hs : swapsWithSole [.Tuple [.Name x px, .Name y py, .Name z pz] kt pt] (.Tuple [a, b, c] k2 pt2) pos.line X.env = pure false) :
    ES X Γ mu (.Assign [.Tuple [.Name x px, .Name y py, .Name z pz] kt pt] (.Tuple [a, b, c] k2 pt2) pos) (.par3 i j l ea eb ec) :=
  fun W _ => PSmono (ps_par3 hc hN hi hj hl hij hil hjl hx hy hz ha hw hs) fun Dn σ H ⟨pn, δ, Fr, R, hp, s, h, q, _⟩ => ⟨pn, δ, Fr, fun ds δ2 => ∃ x y z, ds = [x, y, z] ∧ R (.nx (((δ2.set i (some x)).set j (some y)).set l (some z))), hp, s, by
    have h : wpE Γ ea δ fun x δ1 => wpE Γ eb δ1 fun y δ2 => wpE Γ ec δ2 fun z δ3 => R (.nx (((δ3.set i (some x)).set j (some y)).set l (some z))) := h
    show wpE Γ ea δ fun x δ1 => wpE Γ eb δ1 fun y δ2 => wpE Γ ec δ2 fun z δ3 => ∃ x' y' z', [x, y, z] = [x', y', z'] ∧ R (.nx (((δ3.set i (some x')).set j (some y')).set l (some z')))
    have e : ∀ (x y z : D) (δ2 : Env), (∃ x' y' z', [x, y, z] = [x', y', z'] ∧ R (.nx (((δ2.set i (some x')).set j (some y')).set l (some z')))) = R (.nx (((δ2.set i (some x)).set j (some y)).set l (some z))) := fun x y z δ2 => propext ⟨fun ⟨x', y', z', e, h⟩ => by cases e; exact h, fun h => ⟨x, y, z, rfl, h⟩⟩
    simp only [e]
    exact h, fun ds δ1 vs H1 ⟨x, y, z, e, hr⟩ hl hb s1 => by
    subst e
    match vs, hl with
    | [v, w, u], _ =>
      refine ⟨v, w, u, rfl, q _ _ _ hr ?_⟩
      have s2 : Sim X.K pn (σ.set i (some v)) (δ1.set i (some x)) (.val w y :: .val u z :: Fr) H1 := Sim.put' (show Sim X.K pn σ δ1 (.val v x :: .val w y :: .val u z :: Fr) H1 from s1) (pn_ne hp hmi)
      exact (s2.put' (pn_ne hp hmj)).put' (pn_ne hp hml)⟩
end
end Z
set_option Elab.async false
set_option linter.all false
set_option maxRecDepth 100000
set_option autoImplicit false
namespace Z
open PySem PySem.Spec PyProof.Rows L2
/-! ## xs[::-1] of lists and tuples -/
theorem rev_pick (xs : Array Value) : ((List.range xs.size).filterMap fun (k : Nat) => xs[(((xs.size : Int) - 1) + (k : Int) * (-1)).toNat]?).toArray = xs.toList.reverse.toArray := by
  congr 1
  have key : ∀ n, n ≤ xs.size → ((List.range n).filterMap fun (k : Nat) => xs[(((xs.size : Int) - 1) + (k : Int) * (-1)).toNat]?) = xs.toList.reverse.take n := by
    intro n
    induction n with
    | zero => intro _; simp
    | succ n ih =>
      intro hn
      have e : (((xs.size : Int) - 1) + (n : Int) * (-1)).toNat = xs.size - 1 - n := by omega
      have e2 : xs.toList.reverse[n]? = some (xs[xs.size - 1 - n]'(by omega)) := by
        rw [List.getElem?_reverse (by simp; omega)]
        simp only [Array.length_toList, Array.getElem?_toList]
        rw [Array.getElem?_eq_getElem (by omega)]
      rw [List.range_succ, List.filterMap_append, ih (by omega), List.take_add_one, e2]
      simp only [List.filterMap_cons, e, Array.getElem?_eq_getElem (show xs.size - 1 - n < xs.size by omega), List.filterMap_nil, Option.toList]
  rw [key xs.size (Nat.le_refl _), List.take_of_length_le (by simp)]
section
variable {prog : Program} {w : World} {A : Around} {E : Value → Shared → Prop} {s : Shared}
theorem sliceApplied_rev {sl : Addr} {vs : Value} {n : Nat} {Q : Int × Int × Nat → Shared → Prop} (hs : s.heap.IsSliceOf sl .none .none vs) (ps : IsPart vs (some (-1)))
    (h : Q ((n : Int) - 1, -1, n) s) : wpAny (model prog w) A (Builtin.Slice.sliceApplied (.ref sl) (pure (n : Int))) Q E s := by
  obtain ⟨os, hos, hcs, hds⟩ := id hs
  unfold Builtin.Slice.sliceApplied Builtin.Slice.sliceFields
  refine wpAny_bind (wpAny_bind (wpAny_field hos hds (x := .none) rfl (wpAny_bind (wpAny_field hos hds (x := .none) rfl (wpAny_bind (wpAny_field hos hds (x := vs) rfl (wpAny_pure ?_)))))))
  refine wpAny_bind (_root_.HT.slicePart_ ps ?_)
  show wpAny _ _ (if ((-1 : Int) == 0) = true then _ else _) _ _ s
  rw [if_neg (by decide)]
  refine wpAny_bind (PyProof.Rows.slicePart_none (wpAny_bind (PyProof.Rows.slicePart_none (wpAny_bind (wpAny_pure ?_)))))
  have e1 : Builtin.Slice.sliceAdjust none none (-1) (n : Int) = ((n : Int) - 1, -1) := by simp [Builtin.Slice.sliceAdjust]
  have e2 : Builtin.Slice.slicePlaces ((n : Int) - 1) (-1) (-1) = n := by
    unfold Builtin.Slice.slicePlaces
    rw [if_neg (by decide)]
    split
    · simp
    · omega
  show wpAny _ _ (match Builtin.Slice.sliceAdjust none none (-1) (n : Int) with | (lo, hi) => pure (lo, (-1 : Int), Builtin.Slice.slicePlaces lo hi (-1))) _ _ s
  rw [e1]
  show wpAny _ _ (pure ((n : Int) - 1, (-1 : Int), Builtin.Slice.slicePlaces ((n : Int) - 1) (-1) (-1))) _ _ s
  rw [e2]
  exact wpAny_pure h
theorem getItem_tuple_rev {t sl : Addr} {items : Array Value} {vs : Value} {Q : Value → Shared → Prop} (ht : IsTup s.heap t items) (hs : s.heap.IsSliceOf sl .none .none vs) (ps : IsPart vs (some (-1)))
    (h : Q (.ref s.heap.objs.size) { s with heap := s.heap.push { cls := .type "tuple", data := .seq items.toList.reverse.toArray } })
    (hsz : items.size ≤ sizeLine) : wpAny (model prog w) A (getItem (.ref t) (.ref sl)) Q E s := by
  have htake : sizeOk (.seq items.toList.reverse.toArray) := by
    show items.toList.reverse.toArray.size ≤ sizeLine
    simpa using hsz
  obtain ⟨os, hos, hcs, hds⟩ := id hs
  have hTs : s.TypeIs (.ref sl) "slice" := ⟨os, hos, hcs⟩
  unfold getItem
  try with_reducible refine wpAny_holding ?_
  first | refine wpAny_bind (wpAny_pure ?_) | skip
  refine wpAny_bind (wpAny_sequenceKey ht.typeIs (by decide) ?_)
  refine wpAny_bind (wpAny_callSpecial?_slot (name := Str.ofString "__getitem__") ht.typeIs PyProof.Rows.slot_tuple_getitem
    (wpAny_call_entry PyProof.Rows.slot_tuple_getitem ht.typeIs entry_tuple_getitem ?_ (args_tuple_getitem _ _)))
  show wpAny _ _ (Builtin.Tuple.tupleItemsOf (.ref t) >>= _) _ _ s
  refine wpAny_bind (PyProof.Rows.tupleItemsOf_ ht ?_)
  refine wpAny_bind (wpAny_typeOf hTs ?_)
  rw [if_pos (by decide)]
  refine wpAny_bind (sliceApplied_rev (n := items.size) hs ps ?_)
  have hno : ¬ ((((items.size : Int) - 1) == 0 && (-1 : Int) == 1 && items.size == items.size) = true) := by simp
  show wpAny _ _ (if (((items.size : Int) - 1) == 0 && (-1 : Int) == 1 && items.size == items.size) = true then _ else _) _ _ s
  rw [if_neg hno, rev_pick]
  first
    | exact wpAny_bind (m := Builtin.Tuple.tupleExact _) (wpAny_newObj_type (wpAny_pure ⟨_, rfl, wpAny_pure h⟩) htake)
    | exact wpAny_bind (m := Builtin.Tuple.tupleExact _) (wpAny_newObj_type (wpAny_bind (wpAny_pure (wpAny_pure ⟨_, rfl, wpAny_pure h⟩))) htake)
    | exact wpAny_bind (wpAny_bind (m := Builtin.Tuple.tupleExact _) (wpAny_newObj_type (wpAny_pure (wpAny_pure ⟨_, rfl, wpAny_pure h⟩)) htake))
    | exact wpAny_bind (wpAny_bind (m := Builtin.Tuple.tupleExact _) (wpAny_newObj_type (wpAny_pure ⟨_, rfl, wpAny_pure h⟩) htake))
end
section
variable {X : Cx} {Γ : Nat → Ct} {mu : List Nat} {ea : E}
/-- a list gives a list, a tuple a tuple -/
def rRev (K : PySem.W.Frag) : R1 := fun x H Q => ∃ a xs, x = .ref a ∧ ((SqL K H a xs ∧ ∀ p, H p = none → Q (.ref p) (upd H p (.lst xs.reverse))) ∨ (SqT K H a xs ∧ ∀ p, H p = none → Q (.ref p) (upd H p (.tup xs.reverse))))
theorem pe_rev {e : Expr} {k : Nat} {p1 p2 p3 pos : Pos} : ∀ te, PE X e te → PE X (.Subscript e (.Slice none none (some (.UnaryOp .USub (.Constant (.int 1) k p1) p2)) p3) pos) (fun σ H Q => te σ H fun v H1 => rRev X.K v H1 Q) := fun te he => by
  refine ⟨fun pins s σ H Q I h => ?_⟩
  refine Subscript_ (thn (he.run pins s σ H _ I h) fun v s1 ⟨x, H1, I1, r1, q1⟩ => ?_)
  obtain ⟨a, xs, ex, hq⟩ := q1
  subst ex
  cases r1
  have hst : PO X (some (.UnaryOp .USub (.Constant (.int 1) k p1) p2)) (tPart (tUn (rU fun i => .int (-i)) (tC (.int 1)))) := po_some (pe_un un_neg pe_int)
  refine wpAny_Slice (thn (po_none.run pins s1 σ H1 (fun o H2 => o = none ∧ H2 = H1) I1 ⟨rfl, rfl⟩) fun vl s2 ⟨l, H2, I2, pl, el, e2⟩ => ?_)
  subst el e2
  refine thn (po_none.run pins s2 σ H2 (fun o H3 => o = none ∧ H3 = H2) I2 ⟨rfl, rfl⟩) fun vu s3 ⟨u, H3, I3, pu, eu, e3⟩ => ?_
  subst eu e3
  refine thn (hst.run pins s3 σ H3 (fun o H4 => o = some (-1) ∧ H4 = H3) I3 ⟨1, rfl, -1, rfl, rfl, rfl⟩) fun vs s4 ⟨o, H4, I4, ps, eo, e4⟩ => ?_
  subst eo e4
  have I5 : Inv X pins σ H4 { s4 with heap := s4.heap.push { cls := .type "slice", data := .fields #[vl, vu, vs] } } := I4.kept (t' := s4.toks) fun b ob q => Heap.get?_push_of_some _ q
  rcases hq with ⟨hx, q⟩ | ⟨hx, q⟩
  · obtain ⟨its, r, ht, hz⟩ := I5.list hx
    have hlen := r.length
    show wpAny (model X.prog X.w) X.A (subscriptTail e (.Slice none none (some (.UnaryOp .USub (.Constant (.int 1) k p1) p2)) p3) (.ref a) (.ref s4.heap.objs.size)) (L2.EP X pins σ Q) X.xe { s4 with heap := s4.heap.push { cls := .type "slice", data := .fields #[vl, vu, vs] } }
    refine tail_any (ops := [.ref a, .ref s4.heap.objs.size]) ht.isList.typeIs (PySem.slot_list_getitem.lookup) ?_ (by with_unfolding_all rfl)
    refine wpAny_getItem_list_slice ht.isList (Heap.IsSliceOf.new _ vl vu vs) pl pu ps (by decide) ?_ (by rw [List.size_toArray]; omega)
    rw [PySem.W.krv_pick]
    refine ⟨.ref _, _, I5.laid (t' := s4.toks) (o := .lst xs.reverse) (fun b ob q => Heap.get?_push_of_some _ q) (Nat.le_refl _) ?_, rfl, q _ (I5.hok.fresh (Nat.le_refl _))⟩
    exact ⟨by rw [List.length_reverse]; exact hz, _, 0, r.reverse, Heap.get?_push_size _ rfl⟩
  · obtain ⟨its, r, ht, hz⟩ := I5.tuple hx
    have hlen := r.length
    obtain rfl : vl = .none := by cases pl; rfl
    obtain rfl : vu = .none := by cases pu; rfl
    show wpAny (model X.prog X.w) X.A (subscriptTail e (.Slice none none (some (.UnaryOp .USub (.Constant (.int 1) k p1) p2)) p3) (.ref a) (.ref s4.heap.objs.size)) (L2.EP X pins σ Q) X.xe { s4 with heap := s4.heap.push { cls := .type "slice", data := .fields #[.none, .none, vs] } }
    refine tail_any (ops := [.ref a, .ref s4.heap.objs.size]) ht.typeIs (PyProof.Rows.slot_tuple_getitem.lookup) ?_ (by with_unfolding_all rfl)
    refine getItem_tuple_rev ht (Heap.IsSliceOf.new _ .none .none vs) ps ?_ (by rw [List.size_toArray]; omega)
    refine ⟨.ref _, _, I5.laid (t' := s4.toks) (o := .tup xs.reverse) (fun b ob q => Heap.get?_push_of_some _ q) (Nat.le_refl _) ?_, rfl, q _ (I5.hok.fresh (Nat.le_refl _))⟩
    exact ⟨by rw [List.length_reverse]; exact hz, _, r.reverse, IsTup.new _ _⟩
theorem vals_revP {K : PySem.W.Frag} {H : Hp} {L : List Res} {vs : List V} {ds : List D} (hl : vs.length = ds.length) (g : Good K H (vals vs ds ++ L)) : Good K H (vals vs.reverse ds.reverse ++ L) := by
  rw [vals_rev hl]
  exact g.perm ((List.reverse_perm _).symm.append_right _)
theorem does_rev : DoesA X (rRev X.K) (evA1 .rev) := fun L H v d R Q i h q => by
  have s : Sim X.K [] [] [] L H := i.good.sim0
  match d, h with
  | .nd .tup o ds, ⟨hf, h⟩ =>
    obtain ⟨a, vs, rfl, hl, rd, s4⟩ := s.holdL i hf
    refine ⟨a, vs, rfl, .inr ⟨.inl rd, fun p np => q _ _ _ h ?_⟩⟩
    have g := vals_revP hl s4.good
    exact (Sim.newT (Good.sim0 g) (by simp [hl]) np).good
  | .nd .lst o ds, ⟨hf, h⟩ =>
    obtain ⟨a, vs, rfl, hl, rd, s4⟩ := s.holdL i hf
    refine ⟨a, vs, rfl, .inl ⟨rd, fun p np => q _ _ _ h ?_⟩⟩
    have g := vals_revP hl s4.good
    exact (Sim.newL (Good.sim0 g) (by simp [hl]) np).good
theorem E_rev {a : Expr} {k : Nat} {p1 p2 p3 pos : Pos} (ha : EE X Γ mu a ea) : EE X Γ mu (.Subscript a (.Slice none none (some (.UnaryOp .USub (.Constant (.int 1) k p1) p2)) p3) pos) (.a1 .rev ea) := E_a1 pe_rev does_rev ha
theorem E_revV {a : Expr} {k : Nat} {p1 p2 p3 pos : Pos} (ha : EP X mu a ea) : EE X Γ mu (.Subscript a (.Slice none none (some (.UnaryOp .USub (.Constant (.int 1) k p1) p2)) p3) pos) (.av .rev ea) := E_av pe_rev does_rev ha
end
end Z
set_option Elab.async false
set_option linter.all false
set_option maxRecDepth 100000
set_option autoImplicit false
namespace Z
open PySem PySem.Spec PyProof.Rows L2
/-! ## tuples whose object is known -/
def tObj (its : List Value) : Obj := { cls := .type "tuple", data := .seq its.toArray }
section
variable {X : Cx} {Γ : Nat → Ct} {mu : List Nat} {a ex : Expr} {ea : E} {pos p : Pos} {es : List Expr} {fs : Es} {bs : List (Nat × Nat)}
theorem pe_tupX {t : TA} {x1} (h : PA X es t) : PE X (.Tuple es x1 pos) (fun σ H Q => t σ H fun xs H1 => xs.length ≤ sizeLine ∧ ∀ p its, H1 p = none → Q (.ref p) (upd H1 p (.frz (tObj its) (.tup xs)))) := by
  refine ⟨fun pins s σ H Q I hq => ?_⟩
  refine wpAny_Tuple_spliced (thn (h.run pos pins s σ H _ I hq) fun us s1 ⟨xs, H1, I1, r, z, q⟩ => ⟨by rw [← r.length]; exact z, ?_⟩)
  have hf : H1 s1.heap.objs.size = none := I1.hok.fresh (Nat.le_refl _)
  refine ⟨.ref s1.heap.objs.size, upd H1 s1.heap.objs.size (.frz (tObj us) (.tup xs)), I1.laid (t' := s1.toks) (fun b u e => Heap.get?_push_of_some _ e) (Nat.le_refl _) ?_, rfl, q _ us hf⟩
  exact ⟨Heap.get?_push_size _ rfl, z, us, r, ⟨_, Heap.get?_push_size _ rfl, rfl, _, rfl⟩⟩
theorem call_tupleX : CallR X (.type "tuple") (fun xs H Q => ∃ p ys, xs = [.ref p] ∧ SqL X.K H p ys ∧ ∀ l its, H l = none → Q (.ref l) (upd H l (.frz (tObj its) (.tup ys)))) := by
  intro pins s σ H xs us Q I r h
  obtain ⟨p, ys, rfl, hq, q⟩ := h
  obtain ⟨u, rfl, rx⟩ := vals1 r
  cases rx
  obtain ⟨its, r', pl, hz⟩ := I.list hq
  have hlen := r'.length
  refine PySem.call_tuple_list pl.isList (fun h' kp => ?_) (by simp only [List.size_toArray] <;> omega)
  have I1 : Inv X pins σ H { s with heap := h' } := I.kept (t' := s.toks) kp
  have I2 : Inv X pins σ (upd H h'.objs.size (.frz (tObj its) (.tup ys))) { s with heap := h'.push { cls := .type "tuple", data := .seq its.toArray } } :=
    I1.laid (t' := s.toks) (fun b o e => Heap.get?_push_of_some _ e) (Nat.le_refl _) (show ObjOk X.prog X.w _ _ _ (.frz (tObj its) (.tup ys)) from ⟨Heap.get?_push_size _ rfl, hz, its, r', IsTup.new _ _⟩)
  exact ⟨.ref h'.objs.size, _, I2, rfl, q _ its (I1.hok.fresh (Nat.le_refl _))⟩
theorem Sim.newX {K : PySem.W.Frag} {pn : List (Nat × V)} {σ : L2.St} {δ : Env} {Fr : List Res} {H : Hp} {vs : List V} {ds : List D} {p : Addr} {its : List Value} (s : Sim K pn σ δ (vals vs ds ++ Fr) H) (hl : vs.length = ds.length) (np : H p = none) : Sim K pn σ δ (.val (.ref p) (.nd .tup true ds) :: Fr) (upd H p (.frz (tObj its) (.tup vs))) :=
  s.ofc (Good.mktup (o := true) hl ⟨_, upd_same, rfl⟩ (s.front2.same (same_new np)))
theorem E_tupX {k : Nat} (h : EA X Γ mu bs es fs) : EE X Γ mu (.Tuple es k pos) (.tupX fs) :=
  PEmono (pe_tupX h) fun σ H Q ⟨pn, δ, Fr, R, hp, s, h, q⟩ => ⟨pn, δ, Fr, _, hp, s, h, fun ds δ1 vs H1 hr hl hb s1 => ⟨by rw [hl]; exact hr.1, fun p its np => q _ δ1 _ _ hr.2 (s1.newX hl np)⟩⟩
theorem does_tupleX : DoesA X (fun x H Q => ∃ p ys, [x] = [V.ref p] ∧ SqL X.K H p ys ∧ ∀ l its, H l = none → Q (.ref l) (upd H l (.frz (tObj its) (.tup ys)))) (evA1 .tupleX) := fun L H v d R Q i h q => by
  have s : Sim X.K [] [] [] L H := i.good.sim0
  match d, h with
  | .nd .lst o ds, ⟨hf, h⟩ =>
    obtain ⟨a, vs, rfl, hl, rd, s4⟩ := s.holdL i hf
    exact ⟨a, vs, rfl, rd, fun l its nl => q _ _ _ h (s4.newX hl nl).good⟩
theorem E_tupleX (B : Blt X "tuple") (hs : noStar a = true) (ha : EE X Γ mu a ea) : EE X Γ mu (.Call (.Name "tuple" p) [a] [] pos) (.a1 .tupleX ea) := E_a1 (callT1 call_tupleX B bn_tuple hs (by decide) (by decide)) does_tupleX ha
theorem E_tupleXV (B : Blt X "tuple") (hs : noStar a = true) (ha : EP X mu a ea) : EE X Γ mu (.Call (.Name "tuple" p) [a] [] pos) (.av .tupleX ea) := E_av (callT1 call_tupleX B bn_tuple hs (by decide) (by decide)) does_tupleX ha
end
/-! ## dict(pairs) with tuple keys -/
/-- the tuple p is the pair of the key's tuple and the value -/
def PrT (H : Hp) (p : Addr) (kv : List Key × V) : Prop := ∃ b, H p = some (.tup [.ref b, kv.2]) ∧ H b = some (.tup (kv.1.map kV))
def rDictT : R1 := fun x H Q => ∃ a ps kvs, x = .ref a ∧ TupAt true H a (ps.map V.ref) ∧ Paired (PrT H) ps kvs ∧ (kvs.map (·.1)).Nodup ∧ ∀ p, H p = none → Q (.ref p) (upd H p (.dT kvs))
section
variable {X : Cx} {pins : List (Addr × Obj)} {σ : L2.St} {H : Hp} {s : Shared}
theorem prs_of (I : Inv X pins σ H s) : ∀ {ps : List Addr} {kvs : List (List Key × V)}, Paired (PrT H) ps kvs →
    ∃ xs : List (List Key × Addr × Value), KT H kvs xs ∧ xs.length = ps.length ∧ ∀ (j : Nat) (x : List Key × Addr × Value), xs[j]? = some x → ∃ b : Addr, ps[j]? = some b ∧ IsTup s.heap b #[.ref x.2.1, x.2.2]
  | _, _, .nil => ⟨[], .nil, rfl, fun j q e => by simp at e⟩
  | _, _, .cons (a := p) (b := kv) h t => by
    obtain ⟨xs, r, hl, hp⟩ := prs_of I t
    obtain ⟨b, h1, h2⟩ := h
    obtain ⟨its, rv, ht, _⟩ := I.tuple (SqT.of h1)
    obtain ⟨u, y, ei, ru, ry⟩ := vals2 rv
    subst ei
    obtain rfl : u = Value.ref b := ru
    refine ⟨(kv.1, b, y) :: xs, .cons ⟨rfl, h2, ry⟩ r, by rw [List.length_cons, List.length_cons, hl], fun j q e => ?_⟩
    cases j with
    | zero =>
      have e' : (kv.1, b, y) = q := Option.some.inj e
      subst e'
      exact ⟨p, rfl, ht⟩
    | succ j =>
      obtain ⟨b', e1, e2⟩ := hp j q (by simpa using e)
      exact ⟨b', by simpa using e1, e2⟩
theorem kt_nodup {H : Hp} {kvs : List (List Key × V)} {xs : List (List Key × Addr × Value)} (r : KT H kvs xs) : xs.map (·.1) = kvs.map (·.1) := by
  induction r with
  | nil => rfl
  | cons h t ih => rw [List.map_cons, List.map_cons, ih, h.1]
theorem call_dictT (hc : X.calm = true) (hu : X.A.units + 64 < cLine) : CallR X (.type "dict") (fun xs H Q => ∃ x, xs = [x] ∧ rDictT x H Q) := by
  intro pins s σ H xs us Q I r q
  obtain ⟨x, ex, a, ps, kvs, rfl, ⟨ob, ha, hd⟩, hp, hn, q⟩ := q
  subst ex
  obtain ⟨u, eu, rx⟩ := vals1 r
  subst eu
  cases rx
  obtain ⟨hob, hzl, its, rv, o, ho, hcl, n, hdat⟩ := (show ObjOk X.prog X.w H s.heap a (.frz ob (.tup (ps.map V.ref))) from I.hok a _ ha)
  obtain rfl : o = ob := by rw [hob] at ho; exact (Option.some.inj ho).symm
  have ei := refs_at rv
  subst ei
  obtain ⟨xs, rel, hl, hpr⟩ := prs_of I hp
  rw [List.length_map] at hzl
  have hxs : (xs.map (·.1)).Nodup := by rw [kt_nodup rel]; exact hn
  have hkey : ∀ x ∈ xs, (tupleKind (mixKind X.prog X.w)).is s.heap x.1 x.2.1 := by
    have all : ∀ {l : List (List Key × V)} {m : List (List Key × Addr × Value)}, KT H l m → ∀ x ∈ m, (tupleKind (mixKind X.prog X.w)).is s.heap x.1 x.2.1 := by
      intro l m q
      induction q with
      | nil => intro x hx; exact nomatch hx
      | @cons p q ps qs hq t ih =>
        intro x hx
        rcases List.mem_cons.mp hx with e | hx
        · subst e
          exact key_of I.hok (by rw [← hq.1]; exact hq.2.1)
        · exact ih x hx
    exact all rel
  have hm : (s.heap.objs.size == sysModules) = false := beq_eq_false_iff_ne.mpr (Nat.ne_of_gt I.big)
  refine PySem.call_dict_pairsH (knd := tupleKind (mixKind X.prog X.w)) (ps := xs) (PairArg.tuple a (ps.map Value.ref).toArray (fun j => ps.getD j 0) (xs.map fun x => (.ref x.2.1, x.2.2)))
    (I.ok.hd hc) (show X.A.in1.in1.units < cLine from Nat.lt_of_le_of_lt (by show X.A.units + 1 + 1 ≤ X.A.units + 64; omega) hu) ⟨⟨o, n, hob, hcl, hd, hdat⟩, ?_⟩ ?_ ?_ ?_ ?_
  · refine ⟨by simp [hl], fun j k v e => ?_⟩
    rw [List.getElem?_map] at e
    obtain ⟨x, e1, e2⟩ := Option.map_eq_some_iff.mp e
    cases e2
    obtain ⟨b, e3, ht⟩ := hpr j x e1
    have e4 : ps.getD j 0 = b := by rw [List.getD_eq_getElem?_getD, e3]; rfl
    simp only [e4]
    refine ⟨by simp [e3], .inl ?_⟩
    exact ht
  · refine ⟨by simp, fun i key v e => ?_⟩
    have e : (xs.map fun x => (Value.ref x.2.1, x.2.2))[i]? = some (key, v) := e
    rw [List.getElem?_map] at e
    obtain ⟨x, e1, e2⟩ := Option.map_eq_some_iff.mp e
    cases e2
    exact ⟨x.1, x.2.1, e1, rfl⟩
  · intro h' hk x hx
    obtain ⟨o, its, n, g1, r⟩ := hkey x hx
    exact ⟨o, its, n, hk _ _ (Nat.ne_of_lt (Heap.lt_size g1)) (by simp) g1, r⟩
  · rw [List.length_map, hl]; exact hzl
  · intro h' tk hd' hk
    rw [storedAllH_nil_of_nodup _ hxs] at hd'
    obtain ⟨od, es, ep, h1, h2, h3, h4, h5, h6⟩ := hd'
    refine ⟨.ref s.heap.objs.size, upd H s.heap.objs.size (.dT kvs), I.laid (t' := tk) (fun b o e => hk b o (by simp) e) (Nat.le_refl _) ⟨by rw [Paired.length rel, hl]; exact hzl, hm, xs, ?_, od, es, ep, h1, h2, h3, h4, h6⟩, rfl, q _ (I.hok.fresh (Nat.le_refl _))⟩
    exact rel.keeps fun b ys e => by rw [upd_ne (fun z => by rw [z, I.hok.fresh (Nat.le_refl _)] at e; cases e)]; exact e
theorem kvT_some {d : D} {kv : List Key × D} (h : kvT d = some kv) : ∃ xs, d = .nd .tup false [.nd .tup false xs, kv.2] ∧ DkeyL xs = some kv.1 := by
  unfold kvT at h
  split at h
  · obtain ⟨k, e, rfl⟩ := Option.map_eq_some_iff.mp h
    exact ⟨_, rfl, e⟩
  · cases h
theorem pairs_open {K : PySem.W.Frag} {H : Hp} : ∀ {ds : List D} {us : List V} {ks : List (List Key)} {vs : List D} {L : List Res}, kvsT ds = some (ks, vs) → us.length = ds.length → Good K H (vals us ds ++ L) →
    ∃ ps ws, us = ps.map V.ref ∧ ws.length = vs.length ∧ ks.length = ws.length ∧ Paired (PrT H) ps (ks.zip ws) ∧ Good K H (vals ws vs ++ L)
  | [], us, ks, vs, L, h, hl, g => by
    cases h
    have : us = [] := List.eq_nil_of_length_eq_zero hl
    subst this
    exact ⟨[], [], rfl, rfl, rfl, .nil, g⟩
  | d :: ds, [], _, _, _, _, hl, _ => by simp at hl
  | d :: ds, u :: us, ks, vs, L, h, hl, g => by
    obtain ⟨kv, e1, h⟩ := Option.bind_eq_some_iff.mp (show (kvT d).bind _ = _ from h)
    obtain ⟨r, e2, h⟩ := Option.map_eq_some_iff.mp h
    cases h
    obtain ⟨xs, rfl, ek⟩ := kvT_some e1
    have g : Good K H (.val u (.nd .tup false [.nd .tup false xs, kv.2]) :: (vals us ds ++ L)) := g
    obtain ⟨a, vs2, rfl, hl2, ha, g1⟩ := g.untup
    match vs2, hl2, g1, ha with
    | [y, w], _, g1, ha =>
      have iy := Good.in (v := y) (d := .nd .tup false xs) g1 List.mem_cons_self
      obtain ⟨b, ys, rfl, hl3, hb, hi⟩ := iy.tupAt
      have ey := DkeyL_ok ek hl3 hi
      subst ey
      have g2 : Good K H (vals us ds ++ (.val w kv.2 :: L)) := (Good.drop (show Good K H (.val (.ref b) (.nd .tup false xs) :: (.val w kv.2 :: (vals us ds ++ L))) from g1)).perm List.perm_middle.symm
      obtain ⟨ps, ws, e3, h1, h2, h3, g3⟩ := pairs_open e2 (by simpa using hl) g2
      refine ⟨a :: ps, w :: ws, by rw [e3]; rfl, by simp [h1], by simp [h2], .cons ⟨b, ha, hb⟩ h3, g3.perm List.perm_middle⟩
theorem does_dictOf : DoesA X rDictT (evA1 .dictOf) := fun L H v d R Q i h q => by
  match d, h with
  | .nd .tup true ds, ⟨hf, ks, vs, e, hn, h⟩ =>
    obtain ⟨a, us, rfl, hl, ht, g⟩ := i.holdT hf
    obtain ⟨ps, ws, rfl, h1, h2, h3, g2⟩ := pairs_open e hl g
    refine ⟨a, ps, ks.zip ws, rfl, ht, h3, by rw [List.map_fst_zip (Nat.le_of_eq h2)]; exact hn, fun p np => q _ _ _ h ?_⟩
    exact Good.pack (k := .dT ks) rfl h1 ⟨h2, hn⟩ (g2.alloc np trivial)
variable {Γ : Nat → Ct} {mu : List Nat} {a : Expr} {ea : E} {pos p : Pos}
theorem E_dictOf (hc : X.calm = true) (hu : X.A.units + 64 < cLine) (B : Blt X "dict") (hs : noStar a = true) (ha : EE X Γ mu a ea) : EE X Γ mu (.Call (.Name "dict" p) [a] [] pos) (.a1 .dictOf ea) :=
  E_a1 (callT1 (call_dictT hc hu) B bn_dict hs (by decide) (by decide)) (does_dictOf.imp fun _ _ _ h => ⟨_, rfl, h⟩) ha
theorem E_dictOfV (hc : X.calm = true) (hu : X.A.units + 64 < cLine) (B : Blt X "dict") (hs : noStar a = true) (ha : EP X mu a ea) : EE X Γ mu (.Call (.Name "dict" p) [a] [] pos) (.av .dictOf ea) :=
  E_av (callT1 (call_dictT hc hu) B bn_dict hs (by decide) (by decide)) (does_dictOf.imp fun _ _ _ h => ⟨_, rfl, h⟩) ha
end
end Z
set_option Elab.async false
set_option linter.all false
set_option maxRecDepth 100000
set_option autoImplicit false
namespace Z
open PySem PySem.Spec PyProof.Rows L2 PySem.W
/-! ## sorted: the order of data -/
theorem rowLt_nil : rowLt [] [] = false := lex_irrefl _
theorem rowLt_nc (y : PyData) (ys : List PyData) : rowLt [] (y :: ys) = true := by
  unfold rowLt
  rw [toks_all_cons]
  simp only [keyToksAll]
  rw [lex_diff (O := itemOrd) (by simp)]
  rfl
theorem rowLt_cn (y : PyData) (ys : List PyData) : rowLt (y :: ys) [] = false := by
  unfold rowLt
  rw [toks_all_cons]
  simp only [keyToksAll]
  rw [lex_diff (O := itemOrd) (by simp)]
  rfl
theorem rowLt_cc {x y : PyData} (h : alike x y = true) (xs ys : List PyData) : rowLt (x :: xs) (y :: ys) = if PyData.eqv x y = true then rowLt xs ys else dataLt x y := dataLt_cons h xs ys
mutual
theorem like_alike : ∀ (x y : D), likeD x y = true → ∀ px py, pyd x = some px → pyd y = some py → alike px py = true
  | .at (.int i), .at (.int j), _, px, py, e1, e2 => by cases e1; cases e2; rfl
  | .at (.str i), .at (.str j), _, px, py, e1, e2 => by cases e1; cases e2; rfl
  | .nd .tup _ xs, .nd .tup _ ys, h, px, py, e1, e2 => by
    obtain ⟨ps, f1, rfl⟩ := Option.map_eq_some_iff.mp e1
    obtain ⟨qs, f2, rfl⟩ := Option.map_eq_some_iff.mp e2
    simp only [alike]
    exact likes_alike xs ys h ps qs f1 f2
  | .nd .lst _ xs, .nd .lst _ ys, h, px, py, e1, e2 => by
    obtain ⟨ps, f1, rfl⟩ := Option.map_eq_some_iff.mp e1
    obtain ⟨qs, f2, rfl⟩ := Option.map_eq_some_iff.mp e2
    simp only [alike]
    exact likes_alike xs ys h ps qs f1 f2
theorem likes_alike : ∀ (xs ys : List D), likeDs xs ys = true → ∀ ps qs, pydL xs = some ps → pydL ys = some qs → alikeAll ps qs = true
  | [], ys, _, ps, qs, e1, e2 => by cases e1; cases qs <;> rfl
  | x :: xs, [], _, ps, qs, e1, e2 => by cases e2; cases ps <;> rfl
  | x :: xs, y :: ys, h, ps, qs, e1, e2 => by
    simp only [likeDs, Bool.and_eq_true] at h
    simp only [pydL, Option.bind_eq_some_iff, Option.map_eq_some_iff] at e1 e2
    obtain ⟨p, e1, ps, e3, rfl⟩ := e1
    obtain ⟨q, e2, qs, e4, rfl⟩ := e2
    simp only [alikeAll, like_alike x y h.1 p q e1 e2, likes_alike xs ys h.2 ps qs e3 e4, Bool.and_self]
end
theorem str_eqv (i j : Str) : (PyData.eqv (.str i) (.str j)) = decide (i = j) := by simp only [PyData.eqv]; by_cases h : i = j <;> simp [h]
theorem lt_irr (l : List Nat) : ¬ l < l := List.lt_irrefl l
mutual
theorem cmp_ok : ∀ (x y : D), likeD x y = true → ∀ px py, pyd x = some px → pyd y = some py → ∃ o, cmpD x y = some o ∧ PyData.eqv px py = decide (o = .eq) ∧ dataLt px py = decide (o = .lt)
  | .at (.int i), .at (.int j), _, px, py, e1, e2 => by
    cases e1; cases e2
    refine ⟨_, rfl, ?_, ?_⟩
    · simp only [PyData.eqv]
      rcases Int.lt_trichotomy i j with h | h | h
      · rw [if_pos h]; simp; omega
      · rw [if_neg (by omega), if_neg (by omega)]; simp [h]
      · rw [if_neg (by omega), if_pos h]; simp; omega
    · rw [dataLt_int]
      rcases Int.lt_trichotomy i j with h | h | h
      · rw [if_pos h]; simp [h]
      · rw [if_neg (by omega), if_neg (by omega)]; simp [h]
      · rw [if_neg (by omega), if_pos h]; simp; omega
  | .at (.str i), .at (.str j), _, px, py, e1, e2 => by
    cases e1; cases e2
    refine ⟨_, rfl, ?_, ?_⟩
    · rw [str_eqv]
      unfold ltS
      by_cases h1 : i.cps.toList < j.cps.toList
      · rw [if_pos (decide_eq_true h1)]
        have : i ≠ j := fun e => by subst e; exact lt_irr _ h1
        simp [this]
      · rw [if_neg (by simpa using h1)]
        by_cases h2 : j.cps.toList < i.cps.toList
        · rw [if_pos (decide_eq_true h2)]
          have : i ≠ j := fun e => by subst e; exact lt_irr _ h2
          simp [this]
        · rw [if_neg (by simpa using h2)]
          have : i = j := str_of_cps (List.le_antisymm (by simpa using h2) (by simpa using h1))
          simp [this]
    · rw [dataLt_str]
      unfold ltS
      by_cases h1 : i.cps.toList < j.cps.toList
      · rw [if_pos (decide_eq_true h1)]; simp [h1]
      · rw [if_neg (by simpa using h1)]
        by_cases h2 : j.cps.toList < i.cps.toList
        · rw [if_pos (decide_eq_true h2)]; simpa using h1
        · rw [if_neg (by simpa using h2)]; simpa using h1
  | .nd .tup _ xs, .nd .tup _ ys, h, px, py, e1, e2 => by
    obtain ⟨ps, f1, rfl⟩ := Option.map_eq_some_iff.mp e1
    obtain ⟨qs, f2, rfl⟩ := Option.map_eq_some_iff.mp e2
    rw [dataLt_tuple]
    simp only [PyData.eqv]
    exact cmps_ok xs ys h ps qs f1 f2
  | .nd .lst _ xs, .nd .lst _ ys, h, px, py, e1, e2 => by
    obtain ⟨ps, f1, rfl⟩ := Option.map_eq_some_iff.mp e1
    obtain ⟨qs, f2, rfl⟩ := Option.map_eq_some_iff.mp e2
    rw [dataLt_list]
    simp only [PyData.eqv]
    exact cmps_ok xs ys h ps qs f1 f2
theorem cmps_ok : ∀ (xs ys : List D), likeDs xs ys = true → ∀ ps qs, pydL xs = some ps → pydL ys = some qs → ∃ o, cmpDs xs ys = some o ∧ PyData.eqvAll ps qs = decide (o = .eq) ∧ rowLt ps qs = decide (o = .lt)
  | [], [], _, ps, qs, e1, e2 => by cases e1; cases e2; exact ⟨_, rfl, by simp [PyData.eqvAll], rowLt_nil⟩
  | [], y :: ys, _, ps, qs, e1, e2 => by
    cases e1
    simp only [pydL, Option.bind_eq_some_iff, Option.map_eq_some_iff] at e2
    obtain ⟨q, e2, qs, e4, rfl⟩ := e2
    exact ⟨_, rfl, by simp [PyData.eqvAll], rowLt_nc _ _⟩
  | x :: xs, [], _, ps, qs, e1, e2 => by
    cases e2
    simp only [pydL, Option.bind_eq_some_iff, Option.map_eq_some_iff] at e1
    obtain ⟨q, e2, qs, e4, rfl⟩ := e1
    exact ⟨_, rfl, by simp [PyData.eqvAll], rowLt_cn _ _⟩
  | x :: xs, y :: ys, h, ps, qs, e1, e2 => by
    simp only [likeDs, Bool.and_eq_true] at h
    simp only [pydL, Option.bind_eq_some_iff, Option.map_eq_some_iff] at e1 e2
    obtain ⟨p, e1, ps, e3, rfl⟩ := e1
    obtain ⟨q, e2, qs, e4, rfl⟩ := e2
    obtain ⟨o, c1, c2, c3⟩ := cmp_ok x y h.1 p q e1 e2
    obtain ⟨o', d1, d2, d3⟩ := cmps_ok xs ys h.2 ps qs e3 e4
    rw [rowLt_cc (like_alike x y h.1 p q e1 e2), eqv_all_cons, c2, c3, d2, d3]
    by_cases ho : o = .eq
    · subst ho
      refine ⟨o', ?_, ?_, ?_⟩
      · simp [cmpDs, c1, d1]
      · simp
      · simp
    · refine ⟨o, ?_, ?_, ?_⟩
      · simp [cmpDs, c1, ho]
      · simp [ho]
      · simp [ho]
end
mutual
theorem ok_pyd : ∀ (n : Nat) (d : D), okD n d = true → ∃ x, pyd d = some x ∧ x.depth ≤ n ∧ x ≠ .none
  | n, .at (.int i), _ => ⟨_, rfl, by simp [PyData.depth], by simp⟩
  | n, .at (.str i), _ => ⟨_, rfl, by simp [PyData.depth], by simp⟩
  | n, .nd .tup _ ds, h => by
    simp only [okD, Bool.and_eq_true, decide_eq_true_eq] at h
    obtain ⟨xs, e, hd⟩ := oks_pyd (n - 1) ds h.2
    exact ⟨.tuple xs, by simp [pyd, e], by simp only [PyData.depth]; omega, by simp⟩
  | n, .nd .lst _ ds, h => by
    simp only [okD, Bool.and_eq_true, decide_eq_true_eq] at h
    obtain ⟨xs, e, hd⟩ := oks_pyd (n - 1) ds h.2
    exact ⟨.list xs, by simp [pyd, e], by simp only [PyData.depth]; omega, by simp⟩
theorem oks_pyd : ∀ (n : Nat) (ds : List D), okDs n ds = true → ∃ xs, pydL ds = some xs ∧ PyData.depthAll xs ≤ n
  | n, [], _ => ⟨[], rfl, by simp [PyData.depthAll]⟩
  | n, d :: ds, h => by
    simp only [okDs, Bool.and_eq_true] at h
    obtain ⟨x, e1, h1, _⟩ := ok_pyd n d h.1
    obtain ⟨xs, e2, h2⟩ := oks_pyd n ds h.2
    exact ⟨x :: xs, by simp [pydL, e1, e2], by simp only [PyData.depthAll]; omega⟩
end
/-! ### sorted(xs) of a list, of a dict with tuple keys -/
/-- what a sort asks of the data, and what it hands back: the pairs of an item and its data, in order -/
def SrtR (vs : List V) (pds : List PyData) (Q : List V → Prop) : Prop := AllAlike pds ∧ (pds.length < 2 ∨ Sortable pds) ∧ (∀ x ∈ pds, x.depth ≤ 50) ∧
  ∀ zs : List (V × PyData), zs.Perm (vs.zip pds) → zs.Pairwise (fun a b => dataLt b.2 a.2 = false) → Q (zs.map (·.1))
def rSortD (K : PySem.W.Frag) : R1 := fun x H Q => ∃ a vs pds, x = .ref a ∧ SqL K H a vs ∧ DpAll K H vs pds ∧ SrtR vs pds fun ws => ∀ p, H p = none → Q (.ref p) (upd H p (.lst ws))
section
variable {X : Cx} {pins : List (Addr × Obj)} {σ : L2.St} {H : Hp} {s : Shared}
theorem dpa_len {K : PySem.W.Frag} {H : Hp} : ∀ {vs : List V} {pds : List PyData}, DpAll K H vs pds → vs.length = pds.length
  | _, _, .nil => rfl
  | _, _, .cons _ t => congrArg (· + 1) (dpa_len t)
theorem each_of (I : Inv X pins σ H s) : ∀ {vs : List V} {pds : List PyData} {us : List Value}, DpAll X.K H vs pds → Vals vs us → EachIs (fun u (b : V × PyData) => RelV b.1 u) us (vs.zip pds) ∧ EachIs (fun u (b : V × PyData) => ∃ as, Reads s.heap u b.2 as) us (vs.zip pds)
  | _, _, _, .nil, .nil => ⟨.nil, .nil⟩
  | _, _, _, .cons h t, .cons r rs => ⟨.cons r (each_of I t rs).1, .cons (Dp.reads I _ _ _ h r) (each_of I t rs).2⟩
theorem each_vals {us : List Value} {bs : List (V × PyData)} (h : EachIs (fun u (b : V × PyData) => RelV b.1 u) us bs) : Vals (bs.map (·.1)) us := by
  induction h with
  | nil => exact .nil
  | cons h t ih => exact .cons h ih
theorem zip_snd {vs : List V} {pds : List PyData} (hl : vs.length = pds.length) : (vs.zip pds).map (·.2) = pds := List.map_snd_zip (Nat.le_of_eq hl.symm)
theorem perm_short {α : Type} : ∀ {m l : List α}, m.length < 2 → l.Perm m → l = m
  | [], _, _, hp => hp.eq_nil
  | [x], _, _, hp => List.perm_singleton.mp hp
  | _ :: _ :: _, _, h, _ => by simp at h; omega
theorem cr_sortD (hu : X.A.units + 64 < cLine) : CallR X (.builtin "sorted") (fun xs H Q => ∃ x, xs = [x] ∧ rSortD X.K x H Q) := by
  intro pins s σ H xs us Q I r q
  obtain ⟨x, ex, a, vs, pds, rfl, hs, hd, hal, hk, hdep, q⟩ := q
  subst ex
  obtain ⟨u, eu, rx⟩ := vals1 r
  subst eu
  cases rx
  obtain ⟨its, rv, hl, hz⟩ := I.list hs
  have hln := dpa_len hd
  obtain ⟨e1, e2⟩ := each_of I hd rv
  have fin : ∀ (out : List Value), EachIs (fun u (b : V × PyData) => RelV b.1 u) out ((vs.zip pds).mergeSort (dataLe false fun b => b.2)) → L2.EP X pins σ Q (.ref (s.heap.objs.size + 1)) { s with heap := sortedAll s.heap its (List.toArray out) } := fun out ho => by
    have hp := List.mergeSort_perm (vs.zip pds) (dataLe false fun b => b.2)
    have hsrt := sort_pairwise (sortLe_total (listOrd itemOrd) false fun b : V × PyData => keyToks b.2) (vs.zip pds)
    obtain ⟨ep, he'⟩ := PyProof.Rows.sortedAll_at s.heap its out.toArray
    have hlen : (((vs.zip pds).mergeSort (dataLe false fun b => b.2)).map (·.1)).length ≤ sizeLine := by
      rw [List.length_map, hp.length_eq, List.length_zip, hln, Nat.min_self, ← hln]; exact hz
    refine ⟨.ref _, upd H (s.heap.objs.size + 1) (.lst (((vs.zip pds).mergeSort (dataLe false fun b => b.2)).map (·.1))), I.laid (t' := s.toks) (fun _ _ => PyProof.Rows.sortedAll_old) (Nat.le_succ _) ⟨hlen, out, ep, each_vals ho, he'⟩, rfl, q _ hp ?_ _ (I.hok.fresh (Nat.le_succ _))⟩
    refine hsrt.imp fun {x y} h => ?_
    have h : (!dataLt y.2 x.2) = true := h
    simpa using h
  rcases hk with hk | hk
  · have hl2 : vs.length < 2 := by omega
    have hm : (vs.zip pds).mergeSort (dataLe false fun b => b.2) = vs.zip pds := by
      have : (vs.zip pds).length < 2 := by rw [List.length_zip]; omega
      match h : vs.zip pds, this with
      | [], _ => exact List.mergeSort_nil
      | [x], _ => exact List.mergeSort_singleton x
    refine _root_.SrtO.sorted_ord (ltv := fun _ _ => false) ⟨fun _ _ h => (Bool.false_ne_true h).elim, fun _ _ _ _ _ => rfl⟩ hl.isList (by rw [← rv.length]; exact hz) (fun h2 => absurd h2 (by rw [← rv.length]; omega)) fun out h1 h2 => ?_
    have hp := h2.perm
    have eo : out = its := perm_short (by rw [← rv.length]; omega) hp
    subst eo
    exact fin out (by rw [hm]; exact e1)
  · refine sorted_data (enc := fun b : V × PyData => b.2) (R := fun u b => RelV b.1 u) hl.isList e1 e2 (by rw [zip_snd hln]; exact hal) (by rw [zip_snd hln]; exact hk) (by rw [List.length_zip, hln, Nat.min_self, ← hln]; exact hz) (fun b hb => ?_) fun out _ ho => fin out ho
    have hb2 : b.2 ∈ pds := by rw [← zip_snd hln]; exact List.mem_map.mpr ⟨b, hb, rfl⟩
    have := hdep _ hb2
    omega
end
end Z
set_option Elab.async false
set_option linter.all false
set_option maxRecDepth 100000
set_option autoImplicit false
namespace Z
open PySem PySem.Spec PyProof.Rows L2 PySem.W
section
variable {X : Cx} {pins : List (Addr × Obj)} {σ : L2.St} {H : Hp} {s : Shared}
/-- sorted(d) of a dict with tuple keys -/
def rSortK (K : PySem.W.Frag) : R1 := fun x H Q => ∃ (a : Addr) (kvs : List (List Key × V)) (pds : List PyData), x = .ref a ∧ Rd H a (.dT kvs) ∧ (∀ bs, IsKeys H kvs bs → DpAll K H (bs.map V.ref) pds) ∧
  ∀ bs, IsKeys H kvs bs → SrtR (bs.map V.ref) pds fun ws => ∀ p, H p = none → Q (.ref p) (upd H p (.lst ws))
theorem cr_sortK (hc : X.calm = true) (hu : X.A.units + 64 < cLine) : CallR X (.builtin "sorted") (fun xs H Q => ∃ x, xs = [x] ∧ rSortK X.K x H Q) := by
  intro pins s σ H xs us Q I r q
  obtain ⟨x, ex, d, kvs, pds, rfl, hd, hdp, q⟩ := q
  subst ex
  obtain ⟨u, eu, rx⟩ := vals1 r
  subst eu
  cases rx
  obtain ⟨z, hs, ks, pr, o, es, ep, ho, hx, hdt, he, hn⟩ := (show ObjOk X.prog X.w H s.heap d (.dT kvs) from hd.ok I.hok)
  have l1 : es.size = ks.length := size_of_entries he
  have l2 : kvs.length = ks.length := Paired.length pr
  refine Calls.call_function_entry PyProof.Rows.kind_sorted PyProof.Rows.plain_sorted PyProof.Rows.entry_sorted (PyProof.Rows.args_sorted1 _) ?_
  unfold Builtin.«sorted»
  refine wpAny_bind (m := checkCount "sorted" 1 1 _) (wpAny_pure ?_)
  refine wpAny_bind (PySem.W.kdu_collect (A := X.A.in1) (kdl_raw hs hx hdt) (I.ok.hd hc) ho (by omega) fun h' tk acc' kp it => ?_)
  have ea : acc'.toList = ks.map fun x => Value.ref x.2.1 := by
    have hl : acc'.toList.length = ks.length := by rw [Array.length_toList, it.1]; exact l1
    apply List.ext_getElem?
    intro j
    rw [List.getElem?_map]
    cases hj : acc'.toList[j]? with
    | none =>
      have h1 := List.getElem?_eq_none_iff.mp hj
      rw [List.getElem?_eq_none (by omega)]
      all_goals rfl
    | some v =>
      obtain ⟨en, hen, hv⟩ := it.2 j v (by rw [← Array.getElem?_toList]; exact hj)
      have qe := entry_at he j
      rw [hen] at qe
      cases hb : ks[j]? with
      | none =>
        rw [hb] at qe
        exact nomatch (show some en = none from qe)
      | some b =>
        rw [hb] at qe
        have e2 : en = entryOfKey (tupleKind (mixKind X.prog X.w)) b := Option.some.inj qe
        rw [hv, e2]
        all_goals rfl
  have ik := isKeys_of pr
  generalize hbs : (ks.map fun x => x.2.1) = bs at ik
  have eb : acc'.toList = bs.map Value.ref := by rw [ea, ← hbs, List.map_map]; all_goals rfl
  have rv : Vals (bs.map V.ref) acc'.toList := by rw [eb]; exact vals_refs _
  have hzb : (bs.map V.ref).length ≤ sizeLine := by rw [List.length_map, ← hbs, List.length_map]; omega
  have hd2 := hdp bs ik
  obtain ⟨hal, hk, hdep, q⟩ := q bs ik
  have I1 : Inv X pins σ H { s with heap := h', toks := tk } := I.kept kp
  have hln := dpa_len hd2
  obtain ⟨e1, e2⟩ := each_of I1 hd2 rv
  have hzl : acc'.toList.length ≤ sizeLine := by rw [← rv.length]; exact hzb
  refine wpAny_bind (wpAny_newList ?_ hzl)
  have hoL : (h'.push (seqObj "list" acc'.toList.toArray 0)).get? h'.objs.size = some (seqObj "list" acc'.toList.toArray 0) := Heap.get?_push_size _ rfl
  show wpAny _ _ _ _ _ { s with heap := h'.push (seqObj "list" acc'.toList.toArray 0), toks := tk }
  have fin : ∀ (out : List Value), EachIs (fun u (b : V × PyData) => RelV b.1 u) out (((bs.map V.ref).zip pds).mergeSort (dataLe false fun b => b.2)) →
      L2.EP X pins σ Q (.ref h'.objs.size) { s with heap := sortedHeap (h'.push (seqObj "list" acc'.toList.toArray 0)) h'.objs.size acc'.toList (List.toArray out), toks := tk } := fun out ho => by
    have hp := List.mergeSort_perm ((bs.map V.ref).zip pds) (dataLe false fun b => b.2)
    have hsrt := sort_pairwise (sortLe_total (listOrd itemOrd) false fun b : V × PyData => keyToks b.2) ((bs.map V.ref).zip pds)
    obtain ⟨e', he'⟩ := PyProof.Rows.sortedHeap_at (vs := acc'.toList) (out := out.toArray) hoL
    have hlen : ((((bs.map V.ref).zip pds).mergeSort (dataLe false fun b => b.2)).map (·.1)).length ≤ sizeLine := by
      rw [List.length_map, hp.length_eq, List.length_zip, hln, Nat.min_self, ← hln]; exact hzb
    refine ⟨.ref h'.objs.size, upd H h'.objs.size (.lst ((((bs.map V.ref).zip pds).mergeSort (dataLe false fun b => b.2)).map (·.1))), I1.laid (t' := tk) (fun b u e => ?_) (Nat.le_refl _) ⟨hlen, out, e', each_vals ho, he'⟩, rfl, q _ hp ?_ _ (I1.hok.fresh (Nat.le_refl _))⟩
    · have hb : b < h'.objs.size := Heap.lt_size e
      rw [PyProof.Rows.sortedHeap_old (Nat.ne_of_lt hb) (by rw [size_push']; exact Nat.lt_succ_of_lt hb)]
      exact Heap.get?_push_of_some _ e
    · refine hsrt.imp fun {x y} h => ?_
      have h : (!dataLt y.2 x.2) = true := h
      simpa using h
  refine wpAny_bind (wpAny_holding (wpAny_call_entry PyProof.Rows.slot_list_sort ⟨_, hoL, rfl⟩ PyProof.Rows.entry_list_sort ?_ (PyProof.Rows.args_list_sort _)))
  rcases hk with hk | hk
  · have hl2 : acc'.toList.length < 2 := by rw [← rv.length, hln]; exact hk
    refine _root_.SrtO.list_sort_ord (s := { s with heap := h'.push (seqObj "list" acc'.toList.toArray 0), toks := tk }) (ltv := fun _ _ => false) ⟨fun _ _ h => (Bool.false_ne_true h).elim, fun _ _ _ _ _ => rfl⟩ hoL hzl (fun h2 => absurd h2 (by omega)) fun out h1 h2 => ⟨_, rfl, wpAny_pure ⟨_, rfl, ?_⟩⟩
    have hm : ((bs.map V.ref).zip pds).mergeSort (dataLe false fun b => b.2) = (bs.map V.ref).zip pds := by
      have : ((bs.map V.ref).zip pds).length < 2 := by rw [List.length_zip]; omega
      match h : (bs.map V.ref).zip pds, this with
      | [], _ => exact List.mergeSort_nil
      | [x], _ => exact List.mergeSort_singleton x
    obtain rfl := perm_short hl2 h2.perm
    exact fin _ (by rw [hm]; exact e1)
  · have er' : EachIs (fun v (b : V × PyData) => ∃ as, Reads (sortingHeap (h'.push (seqObj "list" acc'.toList.toArray 0)) h'.objs.size acc'.toList) v b.2 as) acc'.toList ((bs.map V.ref).zip pds) :=
      e2.mono fun v b ⟨as, r⟩ => ⟨as, PyProof.Rows.Reads.keeps (fun b o e => sortingHeap_old (Nat.ne_of_lt (Heap.lt_size e)) (Heap.get?_push_of_some _ e)) r⟩
    have es := zip_snd (vs := bs.map V.ref) hln
    refine list_sort_vals (s := { s with heap := h'.push (seqObj "list" acc'.toList.toArray 0), toks := tk }) (κ := dataKind (sortingHeap (h'.push (seqObj "list" acc'.toList.toArray 0)) h'.objs.size acc'.toList) (((bs.map V.ref).zip pds).map fun b => b.2)) hoL
      (SortsAt.data (s := { s with heap := sortingHeap (h'.push (seqObj "list" acc'.toList.toArray 0)) h'.objs.size acc'.toList, toks := tk }) (each_map (R := fun v d => ∃ as, Reads (sortingHeap (h'.push (seqObj "list" acc'.toList.toArray 0)) h'.objs.size acc'.toList) v d as) (fun b : V × PyData => b.2) er') (by rw [es]; exact hal) (by rw [es]; exact hk) ?_) hzl ⟨_, rfl, wpAny_pure ⟨_, rfl, ?_⟩⟩
    · intro x hx
      rw [es] at hx
      have := hdep _ hx
      show X.A.units + 1 + 1 + _ < cLine
      omega
    · exact fin _ (sortVals_data false e1 er' (by rw [es]; exact hal))
theorem perm_lift {α β : Type} {f : α → β} : ∀ {l l2 : List β}, l.Perm l2 → ∀ {m : List α}, l2 = m.map f → ∃ m' : List α, m'.Perm m ∧ l = m'.map f := by
  intro l l2 h
  induction h with
  | nil =>
    intro m e
    match m, e with
    | [], _ => exact ⟨[], List.Perm.nil, rfl⟩
    | _ :: _, e => cases e
  | cons x h ih =>
    intro m e
    match m, e with
    | y :: m, e =>
      rw [List.map_cons] at e
      obtain ⟨e1, e2⟩ := List.cons.inj e
      obtain ⟨m', p, e3⟩ := ih e2
      exact ⟨y :: m', p.cons y, by rw [e3, e1]; rfl⟩
  | swap x y l =>
    intro m e
    match m, e with
    | a :: b :: m, e =>
      rw [List.map_cons, List.map_cons] at e
      obtain ⟨e1, e2⟩ := List.cons.inj e
      obtain ⟨e2, e3⟩ := List.cons.inj e2
      exact ⟨b :: a :: m, .swap .., by rw [e1, e2, e3]; rfl⟩
    | [a], e => cases e
    | [], e => cases e
  | trans h1 h2 ih1 ih2 =>
    intro m e
    obtain ⟨m2, p2, e2⟩ := ih2 e
    obtain ⟨m1, p1, e1⟩ := ih1 e2
    exact ⟨m1, p1.trans p2, e1⟩
def pdOf (d : D) : PyData := (pyd d).getD .none
theorem pydL_map : ∀ {ds : List D}, (∀ d ∈ ds, okD 50 d = true) → pydL ds = some (ds.map pdOf)
  | [], _ => rfl
  | d :: ds, h => by
    obtain ⟨x, e, _⟩ := ok_pyd 50 d (h d List.mem_cons_self)
    simp only [pydL, e, pydL_map fun d' hd => h d' (List.mem_cons_of_mem _ hd), pdOf, Option.bind_some, Option.map_some, List.map_cons, Option.getD_some]
theorem neT_ne {d : D} {px : PyData} (h : neT d = true) (e : pyd d = some px) : px ≠ .tuple [] := by
  intro z
  subst z
  match d, h, e with
  | .nd .tup o (x :: xs), h, e =>
    obtain ⟨ps, e1, e2⟩ := Option.map_eq_some_iff.mp (show (pydL (x :: xs)).map PyData.tuple = _ from e)
    cases e2
    simp only [pydL, Option.bind_eq_some_iff, Option.map_eq_some_iff] at e1
    obtain ⟨_, _, _, _, e1⟩ := e1
    cases e1
  | .nd .lst o xs, h, e =>
    obtain ⟨ps, e1, e2⟩ := Option.map_eq_some_iff.mp (show (pydL xs).map PyData.list = _ from e)
    cases e2
theorem srtW_R {ds : List D} {vs : List V} {k : List D → Prop} {Q : List V → Prop} (hl : vs.length = ds.length) (h : srtW ds k) (q : ∀ zs : List (V × D), zs.Perm (vs.zip ds) → k (zs.map (·.2)) → Q (zs.map (·.1))) : SrtR vs (ds.map pdOf) Q := by
  obtain ⟨h1, h2, h3, h4⟩ := h
  have hp : ∀ d ∈ ds, pyd d = some (pdOf d) ∧ (pdOf d).depth ≤ 50 ∧ pdOf d ≠ .none := fun d hd => by
    obtain ⟨x, e, a, b⟩ := ok_pyd 50 d (h1 d hd)
    have : pdOf d = x := by unfold pdOf; rw [e]; rfl
    rw [this]; exact ⟨e, a, b⟩
  refine ⟨fun x hx y hy => ?_, ?_, fun x hx => ?_, fun zs hz hs => ?_⟩
  · obtain ⟨d, hd, rfl⟩ := List.mem_map.mp hx
    obtain ⟨e, he, rfl⟩ := List.mem_map.mp hy
    exact like_alike d e (h2 d hd e he) _ _ (hp d hd).1 (hp e he).1
  · rcases h3 with h3 | h3
    · exact .inl (by rw [List.length_map]; exact h3)
    · refine .inr ?_
      by_cases hx : ∃ d ∈ ds, ∃ xs, pdOf d = .tuple xs
      · obtain ⟨d, hd, xs, e⟩ := hx
        refine .inl fun y hy => ?_
        obtain ⟨d', hd', rfl⟩ := List.mem_map.mp hy
        have ha := like_alike d d' (h2 d hd d' hd') _ _ (hp d hd).1 (hp d' hd').1
        rw [e] at ha
        cases hy' : pdOf d' with
        | tuple ys =>
          cases ys with
          | nil => exact absurd hy' (neT_ne (h3 d' hd') (hp d' hd').1)
          | cons y ys => exact ⟨_, _, rfl⟩
        | _ => rw [hy'] at ha; simp [alike] at ha
      · refine .inr fun y hy => ?_
        obtain ⟨d', hd', rfl⟩ := List.mem_map.mp hy
        exact ⟨(hp d' hd').2.2, fun xs e => hx ⟨d', hd', xs, e⟩⟩
  · obtain ⟨d, hd, rfl⟩ := List.mem_map.mp hx
    exact (hp d hd).2.1
  · have ez : vs.zip (ds.map pdOf) = (vs.zip ds).map fun p => (p.1, pdOf p.2) := by rw [List.zip_map_right]; rfl
    obtain ⟨m, pm, rfl⟩ := perm_lift hz ez
    have hm : ∀ p ∈ m, p.2 ∈ ds := fun p hp => (List.of_mem_zip (a := p.1) (b := p.2) (by exact pm.mem_iff.mp hp)).2
    rw [List.map_map]
    refine q m pm (h4 _ ?_ ?_)
    · have := pm.map (·.2)
      rwa [List.map_snd_zip (Nat.le_of_eq hl.symm)] at this
    · unfold SortedD
      rw [List.pairwise_map] at hs ⊢
      refine List.Pairwise.imp_of_mem (fun {a b} ha hb h => ?_) hs
      obtain ⟨o, c1, _, c3⟩ := cmp_ok b.2 a.2 (h2 _ (hm b hb) _ (hm a ha)) _ _ (hp _ (hm b hb)).1 (hp _ (hm a ha)).1
      rw [h] at c3
      rw [c1]
      intro z
      cases z
      simp at c3
theorem vals_pairs {zs : List (V × D)} : vals (zs.map (·.1)) (zs.map (·.2)) = zs.map fun p => .val p.1 p.2 := by
  unfold vals
  induction zs with
  | nil => rfl
  | cons z zs ih => simp only [List.map_cons, List.zipWith_cons_cons, ih]
theorem vals_zip {vs : List V} {ds : List D} : vals vs ds = (vs.zip ds).map fun p => .val p.1 p.2 := by
  unfold vals
  rw [List.zip, List.map_zipWith]
theorem good_perm {K : PySem.W.Frag} {H : Hp} {L : List Res} {vs : List V} {ds : List D} {zs : List (V × D)} (hz : zs.Perm (vs.zip ds)) (g : Good K H (vals vs ds ++ L)) : Good K H (vals (zs.map (·.1)) (zs.map (·.2)) ++ L) := by
  rw [vals_pairs]
  rw [vals_zip] at g
  exact g.perm (((hz.map _).symm).append_right _)
theorem isk_good {K : PySem.W.Frag} {H : Hp} {L : List Res} : ∀ {ks : List (List Key)} {vs : List V} {bs : List Addr}, ks.length = vs.length → IsKeys H (ks.zip vs) bs → Good K H L → bs.length = ks.length ∧ Good K H (vals (bs.map V.ref) (ks.map keysD) ++ L) ∧ (bs.map V.ref).length = (ks.map keysD).length
  | [], _, _, hl, h, g => by
    cases h
    exact ⟨rfl, g, rfl⟩
  | k :: ks, [], _, hl, _, _ => by simp at hl
  | k :: ks, v :: vs, _, hl, .cons (b := b) h t, g => by
    obtain ⟨h1, h2, h3⟩ := isk_good (L := L) (by simpa using hl) t g
    exact ⟨by simp [h1], Good.mktup (o := false) (by simp) h (good_atoms h2 k), by simpa using h3⟩
theorem In.fitK {K : PySem.W.Frag} {H : Hp} {L : List Res} {v : V} {k : Kd} {o : Bool} {ds : List D} (h : In K H L v (.nd k o ds)) : ∃ a vs, v = .ref a ∧ RdK K H a k vs ∧ Fit k vs := by
  obtain ⟨O, Z, OL, ZL, _, r, _, _⟩ := h
  cases r with
  | tup e t => exact ⟨_, _, rfl, e.rd, trivial⟩
  | own e1 e2 e3 t =>
    refine ⟨_, _, rfl, ?_, e3⟩
    cases k with
    | tup => simp [Kd.isTup] at e1
    | lst => exact Or.inl (Or.inl e2)
    | dK ks => exact Or.inl e2
    | dT ks => exact Or.inl e2
    | lkK o ks => exact Or.inr ⟨_, e2⟩
    | lkT o ks => exact Or.inr ⟨_, e2⟩
  | fro e1 e2 e3 t => exact ⟨_, _, rfl, e2.rdK, e3⟩
  | kst e t => exact ⟨_, _, rfl, .inr e, trivial⟩
theorem does_sorted : DoesA X (fun x H Q => rSortD X.K x H Q ∨ rSortK X.K x H Q) (evA1 .sorted) := fun L H v d R Q i h q => by
  match d, h with
  | .nd .lst o ds, ⟨hf, h⟩ =>
    obtain ⟨a, vs, rfl, hl, rd, g⟩ := i.holdL hf
    have hpy := pydL_map h.1
    refine .inl ⟨a, vs, ds.map pdOf, rfl, rd, ?_, srtW_R hl h fun zs hz hk p np => q _ _ _ hk ?_⟩
    · obtain ⟨O, Z, o1, ⟨_, _⟩⟩ := g
      obtain ⟨O1, Z1, O2, Z2, q1, q2, rfl, rfl⟩ := o1.unapp
      exact (q1.repL hl).dp hpy
    · exact Good.pack (k := .lst) rfl (by simp) trivial ((good_perm hz g).alloc np trivial)
  | .nd (.dT ks) o ds, h =>
    obtain ⟨a, vs, rfl, rd, hfit⟩ := i.fitK
    have hfit := hfit.1
    have hpy := pydL_map h.1
    refine .inr ⟨a, ks.zip vs, (ks.map keysD).map pdOf, rfl, rd, fun bs hb => ?_, fun bs hb => ?_⟩
    · obtain ⟨_, g, hlb⟩ := isk_good hfit hb i.good
      obtain ⟨O, Z, o1, ⟨_, _⟩⟩ := g
      obtain ⟨O1, Z1, O2, Z2, q1, q2, rfl, rfl⟩ := o1.unapp
      exact (q1.repL hlb).dp hpy
    · obtain ⟨_, g, hlb⟩ := isk_good hfit hb i.good
      exact srtW_R hlb h fun zs hz hk p np => q _ _ _ hk (Good.pack (k := .lst) rfl (by simp) trivial ((good_perm hz g).alloc np trivial))
end
end Z
set_option Elab.async false
set_option linter.all false
set_option maxRecDepth 100000
set_option autoImplicit false
namespace Z
open PySem PySem.Spec PyProof.Rows L2
/-! ## a def's context, and its readings with checks that compute -/
/-- a def that may be called: its name, its number of parameters, which parameter it changes -/
structure FnI where
  name : Str
  n : Nat
  mp : Option Nat
  kw : List (List Str × List Nat)
structure CxP (X : Cx) (N : List Str) (sc : Scope) (BL : List Str) (FT : List FnI) (av : List Nat) (Γ : Nat → Ct) : Prop where
  nN : X.N = N
  nd : N.Nodup
  sC : X.env.scope = sc
  kind : sc.kind = .function
  calm : X.calm = true
  hu : X.A.units + 64 < cLine
  blt : ∀ x ∈ BL, X.mg x = none
  fns : ∀ i e, i ∈ av → FT[i]? = some e → FnX X e.name e.n e.mp e.kw (Γ i)
  hu2 : X.A.units + 65 < cLine
structure CxD (X : Cx) (N : List Str) (sc : Scope) (BL : List Str) (FT : List FnI) (av : List Nat) (Γ : Nat → Ct) : Prop extends CxP X N sc BL FT av Γ where
  fn : ∀ x, X.fn x = true
  xe : PassesOwn (model X.prog X.w) X.A X.env X.xe
def visC (sc : Scope) (x : Str) : Bool := sc.names.lookup x == some .local || sc.names.lookup x == some .cell || sc.names.lookup x == some .free
def nmC (N : List Str) (sc : Scope) (i : Nat) (x : Str) : Bool := N[i]? == some x && visC sc x && !(x == ("__debug__" : Str)) && !(x == ("__classdict__" : Str))
def locC (sc : Scope) (x : Str) : Bool := sc.names.lookup x == some .local
def stC (N : List Str) (sc : Scope) (mu : List Nat) (i : Nat) (x : Str) : Bool := N[i]? == some x && (sc.names.lookup x == some .local || sc.names.lookup x == some .cell) && !mu.contains i
def blC (sc : Scope) (BL : List Str) (x : Str) : Bool := sc.names.lookup x == some .globalImplicit && BL.contains x
def glC (sc : Scope) (x : Str) : Bool := sc.names.lookup x == some .globalImplicit && !(x == ("__debug__" : Str))
section
variable {X : Cx} {N : List Str} {sc : Scope} {BL : List Str} {FT : List FnI} {av : List Nat} {Γ : Nat → Ct} {mu : List Nat} {a b c o ex : Expr} {ea eb ec eo : E} {pos p apos p2 : Pos} {t1 t2 : T} {x : Str} {i : Nat} {es : List Expr} {fs : Es} {bs : List (Nat × Nat)}
structure NmOk (X : Cx) (i : Nat) (x : Str) : Prop where
  ix : X.N[i]? = some x
  vis : Vis X.env.scope x
  db : (x == ("__debug__" : Str)) = false
  cd : (x == ("__classdict__" : Str)) = false
theorem CxP.nm (C : CxP X N sc BL FT av Γ) (h : nmC N sc i x = true) : NmOk X i x := by
  simp only [nmC, visC, Bool.and_eq_true, Bool.or_eq_true, beq_iff_eq, Bool.not_eq_true'] at h
  obtain ⟨⟨⟨h1, h2⟩, h3⟩, h4⟩ := h
  refine ⟨by rw [C.nN]; exact h1, ?_, h3, h4⟩
  unfold Vis
  rw [C.sC]
  rcases h2 with (h2 | h2) | h2
  · exact .inl h2
  · exact .inr (.inl h2)
  · exact .inr (.inr h2)
theorem CxP.bl (C : CxP X N sc BL FT av Γ) (h : blC sc BL x = true) : Blt X x := by
  simp only [blC, Bool.and_eq_true, beq_iff_eq, List.contains_iff_mem] at h
  exact ⟨by show X.env.scope.names.lookup x = _; rw [C.sC]; exact h.1, C.blt x h.2⟩
theorem CxP.gl (C : CxP X N sc BL FT av Γ) (h : glC sc x = true) : Gl X x ∧ (x == ("__debug__" : Str)) = false := by
  simp only [glC, Bool.and_eq_true, beq_iff_eq, Bool.not_eq_true'] at h
  exact ⟨by show X.env.scope.names.lookup x = _; rw [C.sC]; exact h.1, h.2⟩
theorem CxP.st (C : CxP X N sc BL FT av Γ) (h : stC N sc mu i x = true) : X.N[i]? = some x ∧ Loc X.env.scope x ∧ i ∉ mu := by
  simp only [stC, Bool.and_eq_true, Bool.or_eq_true, beq_iff_eq, Bool.not_eq_true'] at h
  refine ⟨by rw [C.nN]; exact h.1.1, ?_, fun hm => by rw [List.contains_iff_mem.mpr hm] at h; exact absurd h.2 (by simp)⟩
  unfold L2.Loc
  rw [C.sC]
  exact h.1.2
theorem CxP.loc (C : CxP X N sc BL FT av Γ) (h : locC sc x = true) : X.env.scope.names.lookup x = some .local := by
  rw [C.sC]; exact beq_iff_eq.mp h
theorem CxP.ndX (C : CxP X N sc BL FT av Γ) : X.N.Nodup := by rw [C.nN]; exact C.nd
/-! names -/
theorem VP_var (C : CxP X N sc BL FT av Γ) (i : Nat) (h : nmC N sc i x = true) : EP X mu (.Name x pos) (.var i) := P_var i (C.nm h).ix (C.nm h).vis (C.nm h).db (C.nm h).cd
theorem V_var (C : CxP X N sc BL FT av Γ) (i : Nat) (h : nmC N sc i x = true) : EE X Γ mu (.Name x pos) (.pv (.var i)) := E_pv (VP_var C i h)
theorem V_mv (C : CxP X N sc BL FT av Γ) (i : Nat) (h : nmC N sc i x = true) : EE X Γ mu (.Name x pos) (.mv i) := E_mv i (C.nm h).ix (C.nm h).vis (C.nm h).db (C.nm h).cd
theorem V_sh (C : CxP X N sc BL FT av Γ) (i : Nat) (h : nmC N sc i x = true) : EE X Γ mu (.Name x pos) (.sh i) := E_sh i (C.nm h).ix (C.nm h).vis (C.nm h).db (C.nm h).cd
theorem VA_mv (C : CxP X N sc BL FT av Γ) (i : Nat) (h : nmC N sc i x = true) (hr : EA X Γ mu bs es fs) : EA X Γ mu ((0, i) :: bs.map fun p => (p.1 + 1, p.2)) (.Name x pos :: es) (.cons (.mv i) fs) := A_mv i (C.nm h).ix (C.nm h).vis (C.nm h).db (C.nm h).cd hr
theorem VA_ml (C : CxP X N sc BL FT av Γ) (i : Nat) (h : nmC N sc i x = true) (hr : EA X Γ mu bs es fs) : EA X Γ mu ((0, i) :: bs.map fun p => (p.1 + 1, p.2)) (.Name x pos :: es) (.consL i fs) := A_ml i (C.nm h).ix (C.nm h).vis (C.nm h).db (C.nm h).cd hr
theorem VQ_0 (C : CxP X N sc BL FT av Γ) (i : Nat) (h : nmC N sc i x = true) : PE X (.Name x pos) (tPath X.K i []) := Q_0 i (C.nm h).ix (C.nm h).vis (C.nm h).db (C.nm h).cd
/-! calls -/
theorem V_call (C : CxP X N sc BL FT av Γ) (f : Nat) (m : Option (Nat × Nat)) (e : FnI) (hf : FT[f]? = some e) (ha0 : av.contains f = true) (hx : x = e.name) (hg : glC sc x = true) (hs : (ex :: es).all noStar = true) (hm : ∀ k i, m = some (k, i) → e.mp = some k ∧ (k, i) ∈ bs) (ha : EA X Γ mu bs (ex :: es) fs) :
    EE X Γ mu (.Call (.Name x p) (ex :: es) [] pos) (.call f fs m) := by
  subst hx
  exact E_call m (C.fns f e (List.contains_iff_mem.mp ha0) hf) (C.gl hg).1 (C.gl hg).2 hs hm ha
/-! calls with keywords alone -/
def liftKs (K : PySem.W.Frag) (mu : List Nat) (n : Nat) (w : WEs) : TA := fun σ H Q => ∃ pn δ Fr R, Pn mu pn ∧ Sim K pn σ δ Fr H ∧ w δ R ∧ ∀ ds δ' vs H', R ds δ' → vs.length = ds.length → vs.length = n → Sim K pn σ δ' (vals vs ds ++ Fr) H' → Q vs H'
abbrev EK (X : Cx) (Γ : Nat → Ct) (mu : List Nat) (n : Nat) (kws : List Keyword) (fs : Es) : Prop := PK X kws (liftKs X.K mu n (wpEs Γ fs))
theorem PKmono {kws : List Keyword} {t t' : TA} (h : PK X kws t) (i : ∀ σ H Q, t' σ H Q → t σ H Q) : PK X kws t' := ⟨fun pos pins s σ H Q I q => h.run pos pins s σ H Q I (i σ H Q q)⟩
theorem K_nil : EK X Γ mu 0 [] .nil := PKmono pk_nil fun σ H Q ⟨pn, δ, Fr, R, hp, s, h, q⟩ => q [] δ [] H h rfl rfl s
theorem K_cons {n : Nat} {kws : List Keyword} {nm : Option Str} {kpos : Pos} (h : EE X Γ mu ex ea) (hr : EK X Γ mu n kws fs) : EK X Γ mu (n + 1) (⟨nm, ex, kpos⟩ :: kws) (.cons ea fs) :=
  PKmono (pk_cons h hr) fun σ H Q ⟨pn, δ, Fr, R, hp, s, h, q⟩ => ⟨pn, δ, Fr, _, hp, s, h, fun d δ1 v H1 hr s1 => ⟨pn, δ1, _, _, hp, s1, hr, fun ds δ2 vs H2 hr2 hl hn s2 =>
    q (d :: ds) δ2 (v :: vs) H2 hr2 (by simp [hl]) (by simp [hn]) (s2.perm List.perm_middle)⟩⟩
theorem pe_callK0 {f : Addr} {fd : FuncData} {ps ks : List Str} {k : Nat} {sp : Sp} {kws : List Keyword} {tk : TA} {g : List Value → List Value → List Value} {gV : List V → List V → List V} (F : FnOk X.prog X.w X.K X.mg X.base CX0 k f fd ps sp) (hr : Room k X.A) (hg : Gl X x) (hm : X.mg x = some (.ref f)) (hk : PySem.W.keepIn X.K (.ref f) = true) (hb : KBinds X.K fd ps ks g gV)
    (hkw : PK X kws tk) (hall : (backToKw pos (keywordEach kws X.env)).all (·.1.isSome) = true) (hks : (backToKw pos (keywordEach kws X.env)).filterMap (·.1) = ks) (hdb : (x == ("__debug__" : Str)) = false)
    (hpl : ((backTo pos (starEach [] X.env)).any (·.1) || (backToKw pos (keywordEach kws X.env)).any (·.1.isNone)) = false) :
    PE X (.Call (.Name x p) [] kws pos) (fun σ H Q => tk σ H fun zs H2 => sp (gV [] zs) H2 Q E0) := by
  refine ⟨fun pins s σ H Q I h => ?_⟩
  refine wpAny_Call_Name_kw (ld_glob I hg hm ?_ hdb)
  refine PySem.W.callWith_KW0 (h₀ := X.base) I.ok.mod.kin hk hall (thn (hkw.run pos pins s σ H _ I h) fun ws s2 ⟨zs, H2, I2, rz, q2⟩ => ⟨I2.kIn, ?_⟩) hpl
  rw [hks]
  exact run_fnk F hr hb pass0 I2 .nil rz q2
theorem vals_get {vs : List V} {ds : List D} (hl : vs.length = ds.length) : ∀ n, n ≤ vs.length → (List.range n).map (fun j => Res.val (vs.getD j .non) (ds.getD j (.at .non))) = (vals vs ds).take n := by
  intro n hn
  apply List.ext_getElem?
  intro i
  rw [List.getElem?_map, List.getElem?_take]
  by_cases hi : i < n
  · rw [List.getElem?_range hi, if_pos hi]
    unfold vals
    rw [List.getElem?_zipWith, List.getElem?_eq_getElem (show i < vs.length by omega), List.getElem?_eq_getElem (show i < ds.length by omega)]
    simp [List.getD_eq_getElem?_getD, List.getElem?_eq_getElem (show i < vs.length by omega), List.getElem?_eq_getElem (show i < ds.length by omega)]
  · rw [if_neg hi, List.getElem?_eq_none (by simpa using hi)]; rfl
theorem vals_permD {vs : List V} {ds : List D} {perm : List Nat} (hl : vs.length = ds.length) (hp : perm.Perm (List.range vs.length)) : (vals (perm.map fun j => vs.getD j .non) (permD perm ds)).Perm (vals vs ds) := by
  have e : vals (perm.map fun j => vs.getD j .non) (permD perm ds) = perm.map fun j => Res.val (vs.getD j .non) (ds.getD j (.at .non)) := by
    unfold vals permD
    rw [List.zipWith_map]
    induction perm with
    | nil => rfl
    | cons j perm ih => simp
  rw [e]
  refine (hp.map _).trans ?_
  rw [vals_get hl _ (Nat.le_refl _), List.take_of_length_le (by simp [vals, hl])]
theorem V_callP {kws : List Keyword} (C : CxP X N sc BL FT av Γ) (f : Nat) (ks : List Str) (perm : List Nat) (e : FnI) (hf : FT[f]? = some e) (ha0 : av.contains f = true) (hx : x = e.name) (hg : glC sc x = true) (hkp : (ks, perm) ∈ e.kw)
    (hall : (backToKw pos (keywordEach kws X.env)).all (·.1.isSome) = true) (hks : (backToKw pos (keywordEach kws X.env)).filterMap (·.1) = ks)
    (hpl : ((backTo pos (starEach [] X.env)).any (·.1) || (backToKw pos (keywordEach kws X.env)).any (·.1.isNone)) = false) (ha : EK X Γ mu e.n kws fs) :
    EE X Γ mu (.Call (.Name x p) [] kws pos) (.callP f perm fs) := by
  subst hx
  have hlen := (C.fns f e (List.contains_iff_mem.mp ha0) hf).len
  obtain ⟨k, f', fd, ps, F, hr, hmg, hk, _, hkw⟩ := (C.fns f e (List.contains_iff_mem.mp ha0) hf).ex
  obtain ⟨g, gV, hb, hperm, hgv⟩ := hkw _ hkp
  refine PEmono (pe_callK0 F hr (C.gl hg).1 hmg hk hb ha hall hks (C.gl hg).2 hpl) fun σ H Q ⟨pn, δ, Fr, R, hp, s, h, q⟩ => ⟨pn, δ, Fr, _, hp, s, h, fun ds δ1 vs H1 ⟨r, o, hc, h1⟩ hl hn s1 => ?_⟩
  have hp2 : perm.Perm (List.range vs.length) := by rw [hn]; exact hperm
  refine ⟨permD perm ds, Fr ++ envR σ δ1, r, o, ?_, ?_, ?_, hc, fun v H2 g => q r δ1 v H2 h1 (s1.ofc ?_)⟩
  · rw [hgv vs hn, List.length_map, hp2.length_eq, List.length_range, hn]
  · rw [hgv vs hn]; simp [permD]
  · rw [hgv vs hn]
    exact s1.front2.perm ((vals_permD hl hp2).symm.append_right _)
  · exact Good.dropL (L := outR e.mp (gV [] vs) o) (g.perm List.perm_middle.symm)
/-! methods -/
theorem V_dgetD (C : CxP X N sc BL FT av Γ) (i : Nat) (h : nmC N sc i x = true) (m : M2 X (.Name x p) "get" apos a b pos) (ha : EE X Γ mu a ea) (hb : EE X Γ mu b eb) :
    EE X Γ mu (.Call (.Attribute (.Name x p) "get" apos) [a, b] [] pos) (.dgetD i ea eb) := E_dgetD i (by have := C.hu; omega) (C.nm h).ix (C.nm h).vis (C.nm h).db (C.nm h).cd m ha hb
theorem V_append (C : CxP X N sc BL FT av Γ) (i : Nat) (h : nmC N sc i x = true) (hf : Few X [ex] pos) (hl : (apos.endLine == pos.line) = true) (hs : [ex].all noStar = true) (ha : EA X Γ mu bs [ex] fs) :
    EE X Γ mu (.Call (.Attribute (.Name x p) "append" apos) [ex] [] pos) (.mth .append i fs) := E_append i (C.nm h).ix (C.nm h).vis (C.nm h).db (C.nm h).cd hf hl hs ha
theorem V_pop (C : CxP X N sc BL FT av Γ) (i : Nat) (h : nmC N sc i x = true) (hl : (apos.endLine == pos.line) = true) : EE X Γ mu (.Call (.Attribute (.Name x p) "pop" apos) [] [] pos) (.mth .pop i .nil) := E_pop i (C.nm h).ix (C.nm h).vis (C.nm h).db (C.nm h).cd hl
theorem V_popAt (C : CxP X N sc BL FT av Γ) (i : Nat) (h : nmC N sc i x = true) (hf : Few X [ex] pos) (hl : (apos.endLine == pos.line) = true) (hs : [ex].all noStar = true) (ha : EA X Γ mu bs [ex] fs) :
    EE X Γ mu (.Call (.Attribute (.Name x p) "pop" apos) [ex] [] pos) (.mth .popAt i fs) := E_popAt i (C.nm h).ix (C.nm h).vis (C.nm h).db (C.nm h).cd hf hl hs ha
theorem V_insert (C : CxP X N sc BL FT av Γ) (i : Nat) (h : nmC N sc i x = true) (hf : Few X (ex :: es) pos) (hl : (apos.endLine == pos.line) = true) (hs : (ex :: es).all noStar = true) (ha : EA X Γ mu bs (ex :: es) fs) :
    EE X Γ mu (.Call (.Attribute (.Name x p) "insert" apos) (ex :: es) [] pos) (.mth .insert i fs) := E_insert i (C.nm h).ix (C.nm h).vis (C.nm h).db (C.nm h).cd hf hl hs ha
/-! built-ins -/
theorem CallR.wrap {f : Value} {r r' : R1} (h : CallR X f (fun xs H Q => ∃ x, xs = [x] ∧ r x H Q)) (h' : CallR X f (fun xs H Q => ∃ x, xs = [x] ∧ r' x H Q)) : CallR X f (fun xs H Q => ∃ x, xs = [x] ∧ (r x H Q ∨ r' x H Q)) := by
  intro pins s σ H xs us Q I rs q
  obtain ⟨x, e, q | q⟩ := q
  · exact h pins s σ H xs us Q I rs ⟨x, e, q⟩
  · exact h' pins s σ H xs us Q I rs ⟨x, e, q⟩
theorem V_sorted (C : CxP X N sc BL FT av Γ) (h : blC sc BL "sorted" = true) (hs : noStar a = true) (ha : EE X Γ mu a ea) : EE X Γ mu (.Call (.Name "sorted" p) [a] [] pos) (.a1 .sorted ea) :=
  E_a1 (call1 (CallR.wrap (cr_sortD C.hu) (cr_sortK C.calm C.hu)) (C.bl h) bn_sorted hs (by decide) (by decide)) (does_sorted.imp fun _ _ _ h => ⟨_, rfl, h⟩) ha
theorem V_sortedV (C : CxP X N sc BL FT av Γ) (h : blC sc BL "sorted" = true) (hs : noStar a = true) (ha : EP X mu a ea) : EE X Γ mu (.Call (.Name "sorted" p) [a] [] pos) (.av .sorted ea) :=
  E_av (call1 (CallR.wrap (cr_sortD C.hu) (cr_sortK C.calm C.hu)) (C.bl h) bn_sorted hs (by decide) (by decide)) (does_sorted.imp fun _ _ _ h => ⟨_, rfl, h⟩) ha
/-! ### targets, statements -/
theorem VG_name (C : CxD X N sc BL FT av Γ) (i : Nat) (h : stC N sc mu i x = true) : EG X mu [i] (.Name x pos) (.name i) := G_name i C.ndX (C.st h).1 (C.st h).2.1 (.inl (C.fn x)) (C.st h).2.2
theorem VGc_name (C : CxP X N sc BL FT av Γ) (i : Nat) (h : stC N sc mu i x = true) (hl : locC sc x = true) : EG X mu [i] (.Name x pos) (.name i) := G_name i C.ndX (C.st h).1 (C.st h).2.1 (.inr (C.loc hl)) (C.st h).2.2
theorem VG_tup {gs : List G} {k : Nat} {ns : List Nat} {n : Nat} (C : CxP X N sc BL FT av Γ) (h : EGs X mu ns es gs) (hg : gs.length = n) (hn : (assignEach es X.env).length = n) (hst : (assignEach es X.env).findIdx? (·.1) = none) : EG X mu ns (.Tuple es k pos) (.tup gs) := G_tup C.calm h hg hn hst
theorem V_set (C : CxD X N sc BL FT av Γ) (i : Nat) (h : stC N sc mu i x = true) (he : EE X Γ mu ex ea) (hs : noLc ex = true) : ES X Γ mu (.Assign [.Name x p] ex pos) (.set i ea) := S_set i C.ndX (C.st h).1 (C.st h).2.1 (.inl (C.fn x)) (C.st h).2.2 he (noLc_swap hs)
theorem V_asg {tg : Expr} {g : G} {ns : List Nat} (C : CxP X N sc BL FT av Γ) (he : EE X Γ mu ex ea) (hg : EG X mu ns tg g) (hs : noLc ex = true) (hw : swappedStores [tg] ex X.env = pure none) (h1 : (assignEach [tg] X.env).map (·.2) = [assign tg X.env]) :
    ES X Γ mu (.Assign [tg] ex pos) (.asg g ea) := S_asg he hg (noLc_swap hs) hw h1
theorem V_ex (he : EE X Γ mu ex ea) (hs : noLc ex = true) : ES X Γ mu (.Expr ex pos) (.ex ea) := S_ex he (noLc_swap hs)
theorem V_while {sts : List Stmt} {ss : Ss} (C : CxD X N sc BL FT av Γ) (hc : ET X Γ mu c t1) (h1 : ESs X Γ mu sts ss) : ES X Γ mu (.While c sts [] pos) (.whl t1 ss) := S_while C.xe hc h1
theorem V_for {tg iter : Expr} {g : G} {ns : List Nat} {it : It} {sts : List Stmt} {ss : Ss} (C : CxD X N sc BL FT av Γ) (hi : EI X Γ mu tg iter it) (hg : EG X mu ns tg g) (h1 : ESs X Γ mu sts ss) (hs : noLc iter = true) : ES X Γ mu (.For tg iter sts [] pos) (.fr g it ss) := S_for C.xe C.calm hi hg h1 (noLc_fold hs)
theorem V_setIx {π : List Int} {pos' : Pos} {e : E} (C : CxP X N sc BL FT av Γ) (i : Nat) (ho : PE X o (tPath X.K i π)) (hk : EP X mu a ea) (he : EE X Γ mu ex e) (hs : noLc ex = true)
    (hw : swappedStores [.Subscript o a pos'] ex X.env = pure none) (h1 : (assignEach [.Subscript o a pos'] X.env).map (·.2) = [assign (.Subscript o a pos') X.env])
    (ha : ∀ v, assign (.Subscript o a pos') X.env v = (do
      let ov ← holding [v] (eval o X.env)
      let iv ← holding [v, ov] (eval a X.env)
      standAt pos'
      holding [v, ov, iv] (setItem ov iv v)
      release [v, ov, iv] [])) : ES X Γ mu (.Assign [.Subscript o a pos'] ex pos) (.setIx i π ea e) := S_setIx i ho hk he (noLc_swap hs) hw h1 ha
theorem V_dput {pos' : Pos} {e : E} (C : CxP X N sc BL FT av Γ) (i : Nat) (h : nmC N sc i x = true) (hk : EE X Γ mu a ea) (he : EE X Γ mu ex e) (hs : noLc ex = true) : ES X Γ mu (.Assign [.Subscript (.Name x p) a pos'] ex pos) (.dput i ea e) :=
  S_dput i (by have := C.hu; omega) (C.nm h).ix (C.nm h).vis (C.nm h).db (C.nm h).cd hk he (noLc_swap hs)
def blkD (N : List Str) (sc scope : Scope) (mu : List Nat) (own : List (Str × Nat)) (ns : List Nat) : Bool := blkC N sc scope own && own.all (fun p => !mu.contains p.2) && ns.all fun i => (own.map (·.2)).contains i
theorem blkD_ok {scope : Scope} {own : List (Str × Nat)} {ns : List Nat} (h : blkD N sc scope mu own ns = true) : blkC N sc scope own = true ∧ (∀ i ∈ own.map (·.2), i ∉ mu) ∧ ∀ i ∈ ns, i ∈ own.map (·.2) := by
  simp only [blkD, Bool.and_eq_true, List.all_eq_true, Bool.not_eq_true'] at h
  refine ⟨h.1.1, fun i hi hm => ?_, fun i hi => List.contains_iff_mem.mp (h.2 i hi)⟩
  obtain ⟨p, hp, rfl⟩ := List.mem_map.mp hi
  have := h.1.2 p hp
  rw [List.contains_iff_mem.mpr hm] at this
  cases this
/-- the block's own context -/
theorem CxP.blk (C : CxP X N sc BL FT av Γ) {scope : Scope} (hk : scope.kind = .function) (s : Shared) (H : Hp) (c : Addr) (cl : List (Str × Addr)) (fp : List Addr) : CxP (X.blk s H scope (compEnvC scope cl c X.env) fp) N (relS scope sc) BL FT av Γ where
  nN := C.nN
  nd := C.nd
  sC := by rw [← C.sC]; rfl
  kind := hk
  calm := C.calm
  hu := C.hu
  blt := C.blt
  fns := fun i e h1 h2 => ⟨(C.fns i e h1 h2).len, (C.fns i e h1 h2).ex⟩
  hu2 := C.hu2
theorem V_comp {it : It} {g : G} {t : OT} {e : E} {ns : List Nat} {elt tg iter : Expr} {ifs : List Expr} {scope : Scope} (C : CxP X N sc BL FT av Γ) (own : List (Str × Nat)) (hb : blkD N sc scope mu own ns = true) (hk : scope.kind = .function) (hi : EI X Γ mu tg iter it) (hs : noLc iter = true)
    (hg : ∀ X', CxP X' N (relS scope sc) BL FT av Γ → EG X' mu ns tg g) (ht : ∀ X', CxP X' N (relS scope sc) BL FT av Γ → PTs X' ifs (liftT X'.K mu (wpOT Γ t))) (he : ∀ X', CxP X' N (relS scope sc) BL FT av Γ → EE X' Γ mu elt e) :
    EE X Γ mu (.ListComp elt [⟨tg, iter, ifs, 0⟩] scope pos) (.comp (own.map (·.2)) it g t e) :=
  E_comp (tt := tYes) own (blkD_ok hb).2.1 (blkD_ok hb).2.2 C.calm C.ndX hi (by rw [C.nN, C.sC]; exact blkOk_by (blkD_ok hb).1) (fun s H c cl fp => hg _ (C.blk hk s H c cl fp)) (fun s H c cl fp => ht _ (C.blk hk s H c cl fp)) (fun s H c cl fp => he _ (C.blk hk s H c cl fp)) (noLc_fold hs)
theorem V_setComp {it : It} {g : G} {t : OT} {e : E} {ns : List Nat} {elt tg iter : Expr} {ifs : List Expr} {scope : Scope} {y : Str} {py spos : Pos} (C : CxP X N sc BL FT av Γ) (i : Nat) (own : List (Str × Nat)) (h : stC N sc mu i y = true) (hyl : locC sc y = true) (hb : blkD N sc scope mu own ns = true) (hk : scope.kind = .function)
    (hl : (py.line == pos.line) = true) (hany : (scope.names.any fun (n, k) => n == y && (k == .local || k == .cell)) = false) (hi : EI X Γ mu tg iter it) (hs : noLc iter = true)
    (hg : ∀ X', CxP X' N (relS scope sc) BL FT av Γ → EG X' mu ns tg g) (ht : ∀ X', CxP X' N (relS scope sc) BL FT av Γ → PTs X' ifs (liftT X'.K mu (wpOT Γ t))) (he : ∀ X', CxP X' N (relS scope sc) BL FT av Γ → EE X' Γ mu elt e) :
    ES X Γ mu (.Assign [.Name y py] (.ListComp elt [⟨tg, iter, ifs, 0⟩] scope pos) spos) (.set i (.comp (own.map (·.2)) it g t e)) :=
  S_setComp i own (C.st h).2.2 (blkD_ok hb).2.1 (blkD_ok hb).2.2 C.calm C.ndX (C.st h).1 (C.loc hyl) (sw_true (by rw [C.sC]; exact C.kind) (C.loc hyl) hl hany) hi (by rw [C.nN, C.sC]; exact blkOk_by (blkD_ok hb).1) (fun s H c cl fp => hg _ (C.blk hk s H c cl fp)) (fun s H c cl fp => ht _ (C.blk hk s H c cl fp)) (fun s H c cl fp => he _ (C.blk hk s H c cl fp)) (noLc_fold hs)
theorem V_compK {g : G} {t : OT} {e : E} {ns : List Nat} {elt tg : Expr} {ifs : List Expr} {scope : Scope} (C : CxP X N sc BL FT av Γ) (own : List (Str × Nat)) (i : Nat) (h : nmC N sc i x = true) (hio : (own.map (·.2)).contains i = false) (hb : blkD N sc scope mu own ns = true) (hk : scope.kind = .function)
    (hg : ∀ X', CxP X' N (relS scope sc) BL FT av Γ → EG X' mu ns tg g) (ht : ∀ X', CxP X' N (relS scope sc) BL FT av Γ → PTs X' ifs (liftT X'.K mu (wpOT Γ t))) (he : ∀ X', CxP X' N (relS scope sc) BL FT av Γ → EE X' Γ mu elt e) :
    EE X Γ mu (.ListComp elt [⟨tg, .Name x p, ifs, 0⟩] scope pos) (.compK (own.map (·.2)) i g t e) :=
  E_compK own i (fun hm => by rw [List.contains_iff_mem.mpr hm] at hio; cases hio) (blkD_ok hb).2.1 (blkD_ok hb).2.2 C.calm C.ndX (C.nm h).ix (C.nm h).vis (C.nm h).db (C.nm h).cd (by rw [C.nN, C.sC]; exact blkOk_by (blkD_ok hb).1) (fun s H c cl fp => hg _ (C.blk hk s H c cl fp)) (fun s H c cl fp => ht _ (C.blk hk s H c cl fp)) (fun s H c cl fp => he _ (C.blk hk s H c cl fp))
end
end Z
set_option Elab.async false
set_option linter.all false
set_option maxRecDepth 100000
set_option autoImplicit false
namespace Z
open PySem PySem.Spec PyProof.Rows L2
/-! ## a def keeps its promise -/
def startD (n : Nat) (ds : List D) : Env := ds.map some ++ List.replicate (n - ds.length) none
def retW (mp : Option Nat) (r : D) (o : Option D) : Out → Prop
  | .rt d δ => d = r ∧ ∀ m, mp = some m → ∃ d', o = some d' ∧ δ[m]? = some (some d')
  | .nx δ => D.at .non = r ∧ ∀ m, mp = some m → ∃ d', o = some d' ∧ δ[m]? = some (some d')
  | _ => False
structure ModF (P : Program) (w : World) (K : PySem.W.Frag) (mg : Str → Option Value) (base : Heap) (k : Nat) (e : FnI) (ct : Ct) : Prop where
  len : ∀ ds r o, ct ds r o → ds.length = e.n
  ex : ∃ f fd ps, FnOk P w K mg base CX0 k f fd ps (spOf K e.n e.mp ct) ∧ mg e.name = some (.ref f) ∧ PySem.W.keepIn K (.ref f) = true ∧ Binds K fd ps [] ∧ ∀ kp ∈ e.kw, KwOk K fd ps e.n kp
theorem ModF.mono {P : Program} {w : World} {K : PySem.W.Frag} {mg : Str → Option Value} {base : Heap} {j k : Nat} {e : FnI} {ct : Ct} (F : ModF P w K mg base j e ct) (h : j ≤ k) : ModF P w K mg base k e ct :=
  ⟨F.len, let ⟨f, fd, ps, a, b⟩ := F.ex; ⟨f, fd, ps, a.mono h, b⟩⟩
theorem ModF.fnx {X : Cx} {k : Nat} {e : FnI} {ct : Ct} (F : ModF X.prog X.w X.K X.mg X.base k e ct) (hr : Room k X.A) : FnX X e.name e.n e.mp e.kw ct :=
  ⟨F.len, let ⟨f, fd, ps, a, b, c, d⟩ := F.ex; ⟨k, f, fd, ps, a, hr, b, c, d⟩⟩
theorem envR_repl : ∀ (n m : Nat), envR (List.replicate n none) (List.replicate m none) = []
  | 0, _ => rfl
  | n + 1, 0 => envR_nil
  | n + 1, m + 1 => by rw [List.replicate_succ, List.replicate_succ, envR_none]; exact envR_repl n m
theorem envR_app : ∀ {vs : List V} {ds : List D} {n m : Nat}, vs.length = ds.length → envR (vs.map some ++ List.replicate n none) (ds.map some ++ List.replicate m none) = vals vs ds
  | [], [], n, m, _ => envR_repl n m
  | v :: vs, d :: ds, n, m, h => by
    exact congrArg (Res.val v d :: ·) (envR_app (n := n) (m := m) (vs := vs) (ds := ds) (by simpa using h))
def pnOf (mp : Option Nat) (vs : List V) : List (Nat × V) := match mp with
  | none => []
  | some m => match vs[m]? with
    | none => []
    | some v => [(m, v)]
theorem start_get {N : List Str} {vs : List V} {i : Nat} {v : V} (h : vs[i]? = some v) : (start N vs)[i]? = some (some v) := by
  unfold L2.start
  have hl := (List.getElem?_eq_some_iff.mp h).1
  rw [List.getElem?_append_left (by simpa using hl), List.getElem?_map, h]; rfl
theorem startD_get {n : Nat} {ds : List D} {i : Nat} {d : D} (h : (startD n ds)[i]? = some (some d)) : ds[i]? = some d := by
  unfold startD at h
  by_cases hl : i < ds.length
  · rw [List.getElem?_append_left (by simpa using hl), List.getElem?_map] at h
    obtain ⟨e, e1, e2⟩ := Option.map_eq_some_iff.mp h
    cases e2; exact e1
  · rw [List.getElem?_append_right (by simpa using hl), List.getElem?_replicate] at h
    split at h <;> cases h
theorem sim_start {K : PySem.W.Frag} {N : List Str} {vs : List V} {ds : List D} {Fr : List Res} {H : Hp} {mp : Option Nat} (hl : vs.length = ds.length) (g : Good K H (vals vs ds ++ Fr)) : Sim K (pnOf mp vs) (start N vs) (startD N.length ds) Fr H := by
  refine ⟨by simp [L2.start, startD, hl], fun i d h => ?_, fun p hp => ?_, ?_⟩
  · have h := startD_get h
    have hi := (List.getElem?_eq_some_iff.mp h).1
    exact ⟨vs[i]'(by omega), start_get (List.getElem?_eq_getElem (by omega))⟩
  · unfold pnOf at hp
    split at hp
    · simp at hp
    · split at hp
      · simp at hp
      · rename_i v hv
        simp only [List.mem_singleton] at hp
        subst hp
        exact start_get hv
  · unfold L2.start startD
    rw [envR_app hl]; exact g
section
variable {P : Program} {w : World} {K : PySem.W.Frag} {mg : Str → Option Value} {base : Heap}
theorem def_ok {x qual : Str} {st : Stmt} {f : Addr} {fd : FuncData} {N ps : List Str} {k : Nat} {BL : List Str} {FT : List FnI} {av : List Nat} {Γ : Nat → Ct} {mp : Option Nat} {ss : Ss} {ct : Ct} (F : Fun K x qual st f fd) (S : FnScope N ps (defScope st)) (bl : ∀ x ∈ BL, mg x = none)
    (fns : ∀ i e, i ∈ av → FT[i]? = some e → ModF P w K mg base k e (Γ i)) (der : ∀ X, CxD X N (defScope st) BL FT av Γ → ESs X Γ mp.toList (defBody st) ss)
    (law : ∀ ds r o, ct ds r o → ds.length = ps.length ∧ wpSs Γ ss (startD N.length ds) (retW mp r o)) : FnOk P w K mg base CX0 (k + 1) f fd ps (spOf K ps.length mp ct) := by
  refine F.ok S (fun vs H Q E h => ?_) (fun cdv A outer s H vs Q E hr hsp => ?_)
  · obtain ⟨_, _, _, _, h, _⟩ := h; exact h
  · obtain ⟨ds, Fr, r, o, hln, hl, g, hc, q⟩ := hsp
    obtain ⟨hdl, hw⟩ := law ds r o hc
    have fin : ∀ {d : D} {δ' : Env} {v : V} {σ' : L2.St} {H' : Hp}, d = r → (∀ m, mp = some m → ∃ d', o = some d' ∧ δ'[m]? = some (some d')) → Sim K (pnOf mp vs) σ' δ' (.val v d :: Fr) H' → Q v H' := by
      intro d δ' v σ' H' e hm s'
      subst e
      match mp, hm, q, s' with
      | none, _, q, s' => exact q v H' (Good.left (L' := envR σ' δ') (by simpa [outR] using s'.front))
      | some m, hm, q, s' =>
        obtain ⟨d', rfl, e2⟩ := hm m rfl
        obtain ⟨w, e3, s2⟩ := s'.out e2
        cases e4 : vs[m]? with
        | none =>
          refine q v H' ?_
          simp only [outR, e4]
          exact Good.left (L' := envR σ' δ') (by simpa using s'.front)
        | some u =>
          have e5 := s'.pin (m, u) (by simp [pnOf, e4])
          have e5 : σ'[m]? = some (some u) := e5
          obtain rfl : u = w := by rw [e3] at e5; exact (Option.some.inj (Option.some.inj e5)).symm
          refine q v H' ?_
          simp only [outR, e4]
          have g2 := s2.front
          exact Good.left (L' := envR σ' (δ'.set m none)) ((show Good K H' (.val u d' :: .val v d :: (Fr ++ envR σ' (δ'.set m none))) from g2).perm (.swap ..))
    refine ⟨_, der _ ⟨⟨rfl, S.nd, rfl, S.kind, rfl, ?_, bl, fun i e h1 h2 => ?_, ?_⟩, fun _ => rfl, PassesOwn.never⟩ (fun _ _ _ _ => False) takesF, pnOf mp vs, startD N.length ds, Fr, retW mp r o, ?_, sim_start hl g, hw, ?_, ?_, ?_, ?_, ?_⟩
    · have := hr.un
      show _ + 64 < cLine
      exact Nat.lt_of_le_of_lt (show (A.deeper (envOfC qual (defScope st) s.heap.objs.size f cdv)).units + 64 ≤ _ by omega) this
    · exact (fns i e h1 h2).fnx (X := (cxOf CX0 P w K mg base N qual (defScope st) f cdv A outer s H E).nox) hr
    · have := hr.un
      show _ + 65 < cLine
      exact Nat.lt_of_le_of_lt (show (A.deeper (envOfC qual (defScope st) s.heap.objs.size f cdv)).units + 65 ≤ _ by omega) this
    · intro p hp
      unfold pnOf at hp
      split at hp
      · simp at hp
      · split at hp
        · simp at hp
        · simp only [List.mem_singleton] at hp
          subst hp
          simp
    · exact fun δ' σ' H' ⟨e, hm⟩ s' => fin (d := .at .non) e hm s'.mkat
    · exact fun δ' σ' H' h => h.elim
    · exact fun δ' σ' H' h => h.elim
    · exact fun d δ' v σ' H' ⟨e, hm⟩ s' => fin e hm s'
    · exact fun x C fs d δ' σ' H' h => h.elim
end
end Z
set_option Elab.async false
set_option linter.all false
set_option maxRecDepth 100000
set_option autoImplicit false
namespace Z
open PySem PySem.Spec PyProof.Rows L2
theorem blockKind_fn {env : PySem.Env} (h : env.scope.kind = .function) : env.blockKind = .function := by unfold Env.blockKind; rw [h]; rfl
theorem noStar_any2 : ∀ {es : List Expr}, es.all noStar = true → (es.any fun | .Starred .. => true | _ => false) = false
  | [], _ => rfl
  | e :: es, h => by
    simp only [List.all_cons, Bool.and_eq_true] at h
    rw [List.any_cons, noStar_any2 h.2, Bool.or_false]
    cases e <;> first | rfl | simp [noStar] at h
theorem star1 {a : Expr} (h : noStar a = true) : (match a with | .Starred .. => true | _ => false) = false := by
  cases a <;> first | rfl | simp [noStar] at h
theorem par_sw2 {env : PySem.Env} {x y : Str} {px py pt pt2 : Pos} {kt k2 : Nat} {a b : Expr} (hk : env.scope.kind = .function) (hx : env.kindOf x = some .local) (hy : env.kindOf y = some .local) (hl : (py.line == px.line) = true) (hxy : x ≠ y)
    (hs : [a, b].all noStar = true) (hf : [a, b].all (foldedForSure 8) = false) (hc : [a, b].all (constantsAlone 8) = false) :
    swappedStores [.Tuple [.Name x px, .Name y py] kt pt] (.Tuple [a, b] k2 pt2) env = pure (some [x, y]) := by
  have hl2 : py.line = px.line := by simpa using hl
  simp only [List.all_cons, List.all_nil, Bool.and_true, Bool.and_eq_true] at hs
  unfold swappedStores
  simp only [blockKind_fn hk, hf, hc]
  have e1 : (y == x) = false := beq_eq_false_iff_ne.mpr (Ne.symm hxy)
  simp [hx, hy, hl2, Expr.pos, List.eraseDups, List.eraseDupsBy, List.eraseDupsBy.loop, e1]
  intro h
  obtain ⟨h1, h2⟩ := hs
  rcases h with h | h
  · cases a <;> first | exact (Bool.false_ne_true h).elim | simp [noStar] at h1
  · cases b <;> first | exact (Bool.false_ne_true h).elim | simp [noStar] at h2
theorem par_sw3 {env : PySem.Env} {x y z : Str} {px py pz pt pt2 : Pos} {kt k2 : Nat} {a b c : Expr} (hk : env.scope.kind = .function) (hx : env.kindOf x = some .local) (hy : env.kindOf y = some .local) (hz : env.kindOf z = some .local) (hl : (py.line == px.line) = true) (hl' : (pz.line == px.line) = true) (hxy : x ≠ y) (hxz : x ≠ z) (hyz : y ≠ z)
    (hs : [a, b, c].all noStar = true) (hf : [a, b, c].all (foldedForSure 8) = false) (hc : [a, b, c].all (constantsAlone 8) = false) :
    swappedStores [.Tuple [.Name x px, .Name y py, .Name z pz] kt pt] (.Tuple [a, b, c] k2 pt2) env = pure (some [x, y, z]) := by
  have hl2 : py.line = px.line := by simpa using hl
  have hl3 : pz.line = px.line := by simpa using hl'
  simp only [List.all_cons, List.all_nil, Bool.and_true, Bool.and_eq_true] at hs
  unfold swappedStores
  simp only [blockKind_fn hk, hf, hc]
  have e1 : (y == x) = false := beq_eq_false_iff_ne.mpr (Ne.symm hxy)
  have e2 : (z == x) = false := beq_eq_false_iff_ne.mpr (Ne.symm hxz)
  have e3 : (z == y) = false := beq_eq_false_iff_ne.mpr (Ne.symm hyz)
  simp [hx, hy, hz, hl2, hl3, Expr.pos, List.eraseDups, List.eraseDupsBy, List.eraseDupsBy.loop, e1, e2, e3]
  intro h
  obtain ⟨h1, h2, h3⟩ := hs
  rcases h with h | h | h
  · cases a <;> first | exact (Bool.false_ne_true h).elim | simp [noStar] at h1
  · cases b <;> first | exact (Bool.false_ne_true h).elim | simp [noStar] at h2
  · cases c <;> first | exact (Bool.false_ne_true h).elim | simp [noStar] at h3
section
variable {X : Cx} {N : List Str} {sc : Scope} {BL : List Str} {FT : List FnI} {av : List Nat} {Γ : Nat → Ct} {mu : List Nat} {a b c o ex : Expr} {ea eb ec eo : E} {pos p apos p2 : Pos} {t1 t2 : T} {x : Str} {i : Nat} {es : List Expr} {fs : Es} {bs : List (Nat × Nat)}
theorem V_par {x y : Str} {px py pt : Pos} {kt k2 : Nat} {pt2 : Pos} (C : CxP X N sc BL FT av Γ) (i j : Nat) (hi : stC N sc mu i x = true) (hj : stC N sc mu j y = true) (hij : (i == j) = false) (hx : locC sc x = true) (hy : locC sc y = true) (hl : (py.line == px.line) = true) (hxy : (x == y) = false)
    (hs : [a, b].all noStar = true) (hf : [a, b].all (foldedForSure 8) = false) (hc : [a, b].all (constantsAlone 8) = false) (ha : EA X Γ mu bs [a, b] (.cons ea (.cons eb .nil))) :
    ES X Γ mu (.Assign [.Tuple [.Name x px, .Name y py] kt pt] (.Tuple [a, b] k2 pt2) pos) (.par i j ea eb) :=
  S_par i j C.calm C.ndX (C.st hi).1 (C.st hj).1 (beq_eq_false_iff_ne.mp hij) (C.loc hx) (C.loc hy) (C.st hi).2.2 (C.st hj).2.2 ha (par_sw2 (by rw [C.sC]; exact C.kind) (C.loc hx) (C.loc hy) hl (beq_eq_false_iff_ne.mp hxy) hs hf hc) rfl
theorem V_par3 {x y z : Str} {px py pz pt : Pos} {kt k2 : Nat} {pt2 : Pos} (C : CxP X N sc BL FT av Γ) (i j l : Nat) (hi : stC N sc mu i x = true) (hj : stC N sc mu j y = true) (hk : stC N sc mu l z = true) (hij : (i == j) = false) (hil : (i == l) = false) (hjl : (j == l) = false) (hx : locC sc x = true) (hy : locC sc y = true) (hz : locC sc z = true)
    (hl : (py.line == px.line) = true) (hl' : (pz.line == px.line) = true) (hxy : (x == y) = false) (hxz : (x == z) = false) (hyz : (y == z) = false) (hs : [a, b, c].all noStar = true) (hf : [a, b, c].all (foldedForSure 8) = false) (hc : [a, b, c].all (constantsAlone 8) = false) (ha : EA X Γ mu bs [a, b, c] (.cons ea (.cons eb (.cons ec .nil)))) :
    ES X Γ mu (.Assign [.Tuple [.Name x px, .Name y py, .Name z pz] kt pt] (.Tuple [a, b, c] k2 pt2) pos) (.par3 i j l ea eb ec) :=
  S_par3 i j l C.calm C.ndX (C.st hi).1 (C.st hj).1 (C.st hk).1 (beq_eq_false_iff_ne.mp hij) (beq_eq_false_iff_ne.mp hil) (beq_eq_false_iff_ne.mp hjl) (C.loc hx) (C.loc hy) (C.loc hz) (C.st hi).2.2 (C.st hj).2.2 (C.st hk).2.2 ha
    (par_sw3 (by rw [C.sC]; exact C.kind) (C.loc hx) (C.loc hy) (C.loc hz) hl hl' (beq_eq_false_iff_ne.mp hxy) (beq_eq_false_iff_ne.mp hxz) (beq_eq_false_iff_ne.mp hyz) hs hf hc) rfl
end
end Z
set_option Elab.async false
set_option linter.all false
set_option maxRecDepth 100000
set_option autoImplicit false
namespace Z
open PySem PySem.Spec PyProof.Rows L2
/-! ## by value: loops -/
theorem forC_fm {body : D → Env → (Option D → Env → Prop) → Prop} {δ0 : Env} (f : D → Option D) : ∀ (ds acc : List D) (Q : List D → Env → Prop), (∀ d ∈ ds, ∀ k : Option D → Env → Prop, k (f d) δ0 → body d δ0 k) → acc.length + ds.length ≤ sizeLine → Q (acc ++ ds.filterMap f) δ0 → forC body ds δ0 acc Q
  | [], acc, Q, _, _, h => by simpa [forC] using h
  | d :: ds, acc, Q, hb, hl, h => by
    refine hb d List.mem_cons_self _ ?_
    have hb' := fun d hd => hb d (List.mem_cons_of_mem _ hd)
    simp only [List.length_cons] at hl
    cases hf : f d with
    | none =>
      show forC body ds δ0 acc Q
      exact forC_fm f ds acc Q hb' (by omega) (by rw [List.filterMap_cons, hf] at h; exact h)
    | some x =>
      refine ⟨by omega, ?_⟩
      refine forC_fm f ds (acc ++ [x]) Q hb' (by simp; omega) ?_
      rw [List.filterMap_cons, hf] at h
      simpa using h
/-- items that are images g a: each turn gives f a, or nothing -/
theorem forC_fmL {α : Type} {body : D → Env → (Option D → Env → Prop) → Prop} {δ0 : Env} (g : α → D) (f : α → Option D) (l : List α) (Q : List D → Env → Prop) (hb : ∀ a ∈ l, ∀ k : Option D → Env → Prop, k (f a) δ0 → body (g a) δ0 k) (hl : l.length ≤ sizeLine) (h : Q (l.filterMap f) δ0) : forC body (l.map g) δ0 [] Q := by
  have key : ∀ (l : List α) (acc : List D) (Q : List D → Env → Prop), (∀ a ∈ l, ∀ k : Option D → Env → Prop, k (f a) δ0 → body (g a) δ0 k) → acc.length + l.length ≤ sizeLine → Q (acc ++ l.filterMap f) δ0 → forC body (l.map g) δ0 acc Q := by
    intro l
    induction l with
    | nil => intro acc Q _ _ h; simpa [forC] using h
    | cons d ds ih =>
      intro acc Q hb hl h
      refine hb d List.mem_cons_self _ ?_
      have hb' := fun d hd => hb d (List.mem_cons_of_mem _ hd)
      simp only [List.length_cons] at hl
      cases hf : f d with
      | none => exact ih acc Q hb' (by omega) (by rw [List.filterMap_cons, hf] at h; exact h)
      | some x =>
        refine ⟨by omega, ih (acc ++ [x]) Q hb' (by simp; omega) ?_⟩
        rw [List.filterMap_cons, hf] at h
        simpa using h
  exact key l [] Q hb (by simpa using hl) (by simpa using h)
theorem forK_fmL {α : Type} {ok : Env → Prop} {body : D → Env → (Option D → Env → Prop) → Prop} {δ0 : Env} (g : α → D) (f : α → Option D) (l : List α) (Q : List D → Env → Prop) (h0 : ok δ0) (hb : ∀ a ∈ l, ∀ k : Option D → Env → Prop, k (f a) δ0 → body (g a) δ0 k) (hl : l.length ≤ sizeLine) (h : Q (l.filterMap f) δ0) : forK ok body (l.map g) δ0 [] Q := by
  have key : ∀ (l : List α) (acc : List D) (Q : List D → Env → Prop), (∀ a ∈ l, ∀ k : Option D → Env → Prop, k (f a) δ0 → body (g a) δ0 k) → acc.length + l.length ≤ sizeLine → Q (acc ++ l.filterMap f) δ0 → forK ok body (l.map g) δ0 acc Q := by
    intro l
    induction l with
    | nil => intro acc Q _ _ h; exact ⟨h0, by simpa using h⟩
    | cons d ds ih =>
      intro acc Q hb hl h
      refine ⟨h0, hb d List.mem_cons_self _ ?_⟩
      have hb' := fun d hd => hb d (List.mem_cons_of_mem _ hd)
      simp only [List.length_cons] at hl
      cases hf : f d with
      | none => exact ih acc Q hb' (by omega) (by rw [List.filterMap_cons, hf] at h; exact h)
      | some x =>
        refine ⟨by omega, ih (acc ++ [x]) Q hb' (by simp; omega) ?_⟩
        rw [List.filterMap_cons, hf] at h
        simpa using h
  exact key l [] Q hb (by simpa using hl) (by simpa using h)
theorem forC_mapL {α : Type} {body : D → Env → (Option D → Env → Prop) → Prop} {δ0 : Env} (g : α → D) (f : α → D) (l : List α) (Q : List D → Env → Prop) (hb : ∀ a ∈ l, ∀ k : Option D → Env → Prop, k (some (f a)) δ0 → body (g a) δ0 k) (hl : l.length ≤ sizeLine) (h : Q (l.map f) δ0) : forC body (l.map g) δ0 [] Q :=
  forC_fmL g (fun a => some (f a)) l Q hb hl (by simpa using h)
/-- with a state that the turns change -/
theorem forC_st {S : Type} {body : D → Env → (Option D → Env → Prop) → Prop} (st : S → Env) (f : S → D → S × D) : ∀ (ds : List D) (s : S) (acc : List D) (Q : List D → Env → Prop), (∀ d ∈ ds, ∀ (s : S) (k : Option D → Env → Prop), k (some (f s d).2) (st (f s d).1) → body d (st s) k) → acc.length + ds.length ≤ sizeLine →
    Q (acc ++ (ds.foldl (fun p d => ((f p.1 d).1, p.2 ++ [(f p.1 d).2])) (s, [])).2) (st (ds.foldl (fun p d => ((f p.1 d).1, p.2 ++ [(f p.1 d).2])) (s, ([] : List D))).1) → forC body ds (st s) acc Q
  | [], s, acc, Q, _, _, h => by simpa [forC] using h
  | d :: ds, s, acc, Q, hb, hl, h => by
    refine hb d List.mem_cons_self _ _ ?_
    simp only [List.length_cons] at hl
    refine ⟨by omega, ?_⟩
    refine forC_st st f ds _ _ Q (fun d hd => hb d (List.mem_cons_of_mem _ hd)) (by simp; omega) ?_
    have key : ∀ (ds : List D) (s : S) (l l' : List D), ds.foldl (fun p d => ((f p.1 d).1, p.2 ++ [(f p.1 d).2])) (s, l ++ l') = ((ds.foldl (fun p d => ((f p.1 d).1, p.2 ++ [(f p.1 d).2])) (s, l')).1, l ++ (ds.foldl (fun p d => ((f p.1 d).1, p.2 ++ [(f p.1 d).2])) (s, l')).2) := by
      intro ds
      induction ds with
      | nil => intro s l l'; rfl
      | cons d ds ih => intro s l l'; simp only [List.foldl_cons, List.append_assoc]; exact ih _ _ _
    have e := key ds (f s d).1 [(f s d).2] []
    simp only [List.foldl_cons, List.nil_append, List.append_nil] at h e
    rw [e] at h
    simpa using h
theorem forW_ix {body : D → Env → (Out → Prop) → Prop} (I : Nat → Env → Prop) (Q : Out → Prop) : ∀ (ds : List D) (n : Nat) (δ : Env), I n δ →
    (∀ (i : Nat) (d : D) (δ : Env), ds[i]? = some d → I (n + i) δ → ∀ k : Out → Prop, (∀ δ', I (n + i + 1) δ' → k (.nx δ')) → (∀ δ', I (n + i + 1) δ' → k (.ct δ')) → (∀ δ', Q (.nx δ') → k (.bk δ')) → (∀ r δ', Q (.rt r δ') → k (.rt r δ')) → (∀ x fs δ', Q (.xc x fs δ') → k (.xc x fs δ')) → body d δ k) → (∀ δ, I (n + ds.length) δ → Q (.nx δ)) → forW body ds δ Q
  | [], n, δ, h, _, he => he δ h
  | d :: ds, n, δ, h, hb, he => by
    have rest : ∀ δ', I (n + 1) δ' → forW body ds δ' Q := fun δ' h' => forW_ix I Q ds (n + 1) δ' h' (fun i d δ hd hI k k1 k2 k3 k4 k5 => hb (i + 1) d δ (by simpa using hd) (by rw [show n + (i + 1) = n + 1 + i by omega]; exact hI) k (fun δ' h => k1 δ' (by rw [show n + 1 + i + 1 = n + (i + 1) + 1 by omega]; exact h)) (fun δ' h => k2 δ' (by rw [show n + 1 + i + 1 = n + (i + 1) + 1 by omega]; exact h)) k3 k4 k5) fun δ' h => he δ' (by rw [List.length_cons, show n + (ds.length + 1) = n + 1 + ds.length by omega]; exact h)
    exact hb 0 d δ rfl (by simpa using h) _ (fun δ' h => rest δ' (by simpa using h)) (fun δ' h => rest δ' (by simpa using h)) (fun δ' h => h) (fun r δ' h => h) fun x fs δ' h => h
/-- a state that each item changes -/
theorem forW_fold {S : Type} {body : D → Env → (Out → Prop) → Prop} (I : S → Env → Prop) (f : S → D → S) (Q : Out → Prop) : ∀ (ds : List D) (s : S) (δ : Env), I s δ →
    (∀ d ∈ ds, ∀ (s : S) (δ : Env), I s δ → ∀ k : Out → Prop, (∀ δ', I (f s d) δ' → k (.nx δ')) → body d δ k) → (∀ δ, I (ds.foldl f s) δ → Q (.nx δ)) → forW body ds δ Q
  | [], s, δ, h, _, he => he δ h
  | d :: ds, s, δ, h, hb, he => hb d List.mem_cons_self s δ h _ fun δ' h' => forW_fold I f Q ds (f s d) δ' h' (fun d hd => hb d (List.mem_cons_of_mem _ hd)) he
abbrev iL (xs : List Int) : List D := xs.map fun i => D.at (.int i)
theorem frozL_iL : ∀ xs : List Int, frozL (iL xs) = true
  | [] => rfl
  | x :: xs => frozL_iL xs
theorem frozL_at : ∀ {ds : List D}, (∀ d ∈ ds, d.froz = true) → frozL ds = true
  | [], _ => rfl
  | d :: ds, h => by simp only [frozL, h d List.mem_cons_self, frozL_at fun d' hd => h d' (List.mem_cons_of_mem _ hd), Bool.and_self]
theorem zip_maps {α β : Type} (f : α → D) (g : β → D) (xs : List α) (ys : List β) : List.zipWith (fun x y => D.nd .tup false [x, y]) (xs.map f) (ys.map g) = (xs.zip ys).map fun p => D.nd .tup false [f p.1, g p.2] := by
  rw [List.zipWith_map, List.zip, List.map_zipWith]
theorem zipWith_zip {α β γ : Type} {f : α → β → γ} : ∀ {xs : List α} {ys : List β}, List.zipWith f xs ys = (xs.zip ys).map fun p => f p.1 p.2
  | [], ys => by simp
  | xs, [] => by simp
  | x :: xs, y :: ys => by rw [List.zipWith_cons_cons, List.zip_cons_cons, List.map_cons, zipWith_zip]
/-- a loop over images -/
theorem forW_foldL {α S : Type} {body : D → Env → (Out → Prop) → Prop} (g : α → D) (I : S → Env → Prop) (f : S → α → S) (Q : Out → Prop) : ∀ (l : List α) (s : S) (δ : Env), I s δ →
    (∀ a ∈ l, ∀ (s : S) (δ : Env), I s δ → ∀ k : Out → Prop, (∀ δ', I (f s a) δ' → k (.nx δ')) → body (g a) δ k) → (∀ δ, I (l.foldl f s) δ → Q (.nx δ)) → forW body (l.map g) δ Q
  | [], s, δ, h, _, he => he δ h
  | d :: ds, s, δ, h, hb, he => hb d List.mem_cons_self s δ h _ fun δ' h' => forW_foldL g I f Q ds (f s d) δ' h' (fun d hd => hb d (List.mem_cons_of_mem _ hd)) he

/-! ### the by-value reading, clause by clause -/
@[simp] theorem q_u_len  : ev1 .len = evLen := rfl
@[simp] theorem q_u_neg  : ev1 .neg = evNeg := rfl
@[simp] theorem q_u_nt  : ev1 .nt = evNt := rfl
@[simp] theorem q_u_abs  : ev1 .abs = evAbs := rfl
@[simp] theorem q_u_str  : ev1 .str = evStr := rfl
@[simp] theorem q_u_int  : ev1 .int = evInt := rfl
@[simp] theorem q_u_sum  : ev1 .sum = evSum := rfl
@[simp] theorem q_u_isi {ts : List Ty} : ev1 (.isi ts) = evIsi ts := rfl
@[simp] theorem q_u_isNon {d : D} {k : D → Prop} : ev1 .isNon d k = k (.at (.bl (isNon d))) := rfl
@[simp] theorem q_u_isNotNon {d : D} {k : D → Prop} : ev1 .isNotNon d k = k (.at (.bl (!isNon d))) := rfl
@[simp] theorem q_b_add  : ev2 .add = evAdd := rfl
@[simp] theorem q_b_idx  : ev2 .idx = evIdx := rfl
@[simp] theorem q_b_join  : ev2 .join = evJoin := rfl
@[simp] theorem q_b_sub {i j : Int}{k : D → Prop} : ev2 .sub (.at (.int i)) (.at (.int j)) k = k (.at (.int (i - j))) := rfl
@[simp] theorem q_b_mul {i j : Int}{k : D → Prop} : ev2 .mul (.at (.int i)) (.at (.int j)) k = ((CMulW i j ∨ CMul i j) ∧ k (.at (.int (i * j)))) := rfl
@[simp] theorem q_b_fdiv {i j : Int}{k : D → Prop} : ev2 .fdiv (.at (.int i)) (.at (.int j)) k = (CDivW i j ∧ k (.at (.int (i / j)))) := rfl
@[simp] theorem q_b_mod {i j : Int}{k : D → Prop} : ev2 .mod (.at (.int i)) (.at (.int j)) k = (0 < j ∧ k (.at (.int (i % j)))) := rfl
@[simp] theorem q_b_pow {i j : Int}{k : D → Prop} : ev2 .pow (.at (.int i)) (.at (.int j)) k = (CPow i j ∧ k (.at (.int (i ^ j.toNat)))) := rfl
@[simp] theorem q_b_shl {i j : Int}{k : D → Prop} : ev2 .shl (.at (.int i)) (.at (.int j)) k = (CPow i j ∧ k (.at (.int (i * 2 ^ j.toNat)))) := rfl
@[simp] theorem q_b_lt {i j : Int}{k : D → Prop} : ev2 .lt (.at (.int i)) (.at (.int j)) k = k (.at (.bl (decide (i < j)))) := rfl
@[simp] theorem q_b_le {i j : Int}{k : D → Prop} : ev2 .le (.at (.int i)) (.at (.int j)) k = k (.at (.bl (decide (i ≤ j)))) := rfl
@[simp] theorem q_b_gt {i j : Int}{k : D → Prop} : ev2 .gt (.at (.int i)) (.at (.int j)) k = k (.at (.bl (decide (j < i)))) := rfl
@[simp] theorem q_b_ge {i j : Int}{k : D → Prop} : ev2 .ge (.at (.int i)) (.at (.int j)) k = k (.at (.bl (decide (j ≤ i)))) := rfl
@[simp] theorem q_b_eq {x y : D} {k : D → Prop} : ev2 .eq x y k = eqD x y fun b => k (.at (.bl b)) := rfl
@[simp] theorem q_b_ne {x y : D} {k : D → Prop} : ev2 .ne x y k = eqD x y fun b => k (.at (.bl !b)) := rfl
@[simp] theorem q_eq_i {i j : Int}{k : Bool → Prop} : eqD (.at (.int i)) (.at (.int j)) k = k (decide (i = j)) := rfl
@[simp] theorem q_eq_s {i j : Str} {k : Bool → Prop} : eqD (.at (.str i)) (.at (.str j)) k = k (decide (i = j)) := rfl
@[simp] theorem q_eq_b {i j : Bool} {k : Bool → Prop} : eqD (.at (.bl i)) (.at (.bl j)) k = k (decide (i = j)) := rfl
@[simp] theorem q_add_i {i j : Int}{k : D → Prop} : evAdd (.at (.int i)) (.at (.int j)) k = k (.at (.int (i + j))) := rfl
@[simp] theorem q_add_s {i j : Str} {k : D → Prop} : evAdd (.at (.str i)) (.at (.str j)) k = (i.length + j.length ≤ sizeLine ∧ k (.at (.str (i ++ j)))) := rfl
@[simp] theorem q_len_s {x : Str} {k : D → Prop} : evLen (.at (.str x)) k = (x.length ≤ sizeLine ∧ k (.at (.int x.length))) := rfl
@[simp] theorem q_len_t {o : Bool} {ds : List D} {k : D → Prop} : evLen (.nd .tup o ds) k = k (.at (.int ds.length)) := rfl
@[simp] theorem q_len_l {o : Bool} {ds : List D} {k : D → Prop} : evLen (.nd .lst o ds) k = k (.at (.int ds.length)) := rfl
@[simp] theorem q_neg_i {i : Int} {k : D → Prop} : evNeg (.at (.int i)) k = k (.at (.int (-i))) := rfl
@[simp] theorem q_nt_d {d : D} {k : D → Prop} : evNt d k = truth d fun b => k (.at (.bl !b)) := rfl
@[simp] theorem q_abs_i {i : Int} {k : D → Prop} : evAbs (.at (.int i)) k = k (.at (.int (if i < 0 then -i else i))) := rfl
@[simp] theorem q_str_i {i : Int} {k : D → Prop} : evStr (.at (.int i)) k = (i.natAbs.log2 < 1920 ∧ k (.at (.str (toString i)))) := rfl
@[simp] theorem q_int_i {i : Int} {k : D → Prop} : evInt (.at (.int i)) k = k (.at (.int i)) := rfl
@[simp] theorem q_sum_l {o : Bool} {ds : List D} {k : D → Prop} : evSum (.nd .lst o ds) k = ∃ ns, intsOf ds = some ns ∧ k (.at (.int ns.sum)) := rfl
@[simp] theorem q_idx_t {o : Bool} {ds : List D} {i : Int} {k : D → Prop} : evIdx (.nd .tup o ds) (.at (.int i)) k = ∃ d, atI ds i = some d ∧ k d := rfl
@[simp] theorem q_idx_l {o : Bool} {ds : List D} {i : Int} {k : D → Prop} : evIdx (.nd .lst o ds) (.at (.int i)) k = ∃ d, atI ds i = some d ∧ k d := rfl
@[simp] theorem q_join_t {o : Bool} {ds : List D} {x : Str} {k : D → Prop} : evJoin (.at (.str x)) (.nd .tup o ds) k = ∃ ys, strsOf ds = some ys ∧ joinOk x ys ∧ k (.at (.str (Txt.join x ys))) := rfl
@[simp] theorem q_join_l {o : Bool} {ds : List D} {x : Str} {k : D → Prop} : evJoin (.at (.str x)) (.nd .lst o ds) k = ∃ ys, strsOf ds = some ys ∧ joinOk x ys ∧ k (.at (.str (Txt.join x ys))) := rfl
@[simp] theorem q_isi_1 {t : Ty} {d : D} {k : D → Prop} : evIsi [t] d k = ∃ b, isTy d t = some b ∧ k (.at (.bl b)) := rfl
@[simp] theorem q_isi_2 {t u : Ty} {d : D} {k : D → Prop} : evIsi [t, u] d k = ∃ b c, isTy d t = some b ∧ isTy d u = some c ∧ k (.at (.bl (b || c))) := rfl
@[simp] theorem q_tr_n {k : Bool → Prop} : truth (.at .non) k = k false := rfl
@[simp] theorem q_tr_b {b : Bool} {k : Bool → Prop} : truth (.at (.bl b)) k = k b := rfl
@[simp] theorem q_tr_i {i : Int} {k : Bool → Prop} : truth (.at (.int i)) k = k (i != 0) := rfl
@[simp] theorem q_tr_s {x : Str} {k : Bool → Prop} : truth (.at (.str x)) k = (x.length ≤ sizeLine ∧ k ((x.length : Int) != 0)) := rfl
@[simp] theorem q_tr_t {o : Bool} {ds : List D} {k : Bool → Prop} : truth (.nd .tup o ds) k = k (!ds.isEmpty) := rfl
@[simp] theorem q_tr_l {o : Bool} {ds : List D} {k : Bool → Prop} : truth (.nd .lst o ds) k = k (!ds.isEmpty) := rfl
@[simp] theorem q_to_t {o : Bool} {ds : List D} {k : D → Prop} : evA1 .tupleOf (.nd .tup o ds) k = (frozL ds = true ∧ k (.nd .tup o ds)) := rfl
@[simp] theorem q_to_l {o : Bool} {ds : List D} {k : D → Prop} : evA1 .tupleOf (.nd .lst o ds) k = (frozL ds = true ∧ k (.nd .tup false ds)) := rfl
@[simp] theorem q_tx_l {o : Bool} {ds : List D} {k : D → Prop} : evA1 .tupleX (.nd .lst o ds) k = (frozL ds = true ∧ k (.nd .tup true ds)) := rfl
@[simp] theorem q_lo_t {o : Bool} {ds : List D} {k : D → Prop} : evA1 .listOf (.nd .tup o ds) k = (frozL ds = true ∧ k (.nd .lst true ds)) := rfl
@[simp] theorem q_lo_l {o : Bool} {ds : List D} {k : D → Prop} : evA1 .listOf (.nd .lst o ds) k = (frozL ds = true ∧ k (.nd .lst true ds)) := rfl
@[simp] theorem q_rv_t {o : Bool} {ds : List D} {k : D → Prop} : evA1 .rev (.nd .tup o ds) k = (frozL ds = true ∧ k (.nd .tup false ds.reverse)) := rfl
@[simp] theorem q_rv_l {o : Bool} {ds : List D} {k : D → Prop} : evA1 .rev (.nd .lst o ds) k = (frozL ds = true ∧ k (.nd .lst true ds.reverse)) := rfl
@[simp] theorem q_so_l {o : Bool} {ds : List D} {k : D → Prop} : evA1 .sorted (.nd .lst o ds) k = (frozL ds = true ∧ srtW ds fun ds' => k (.nd .lst true ds')) := rfl
@[simp] theorem q_so_d {ks : List (List Key)} {o : Bool} {ds : List D} {k : D → Prop} : evA1 .sorted (.nd (.dT ks) o ds) k = srtW (ks.map keysD) fun ds' => k (.nd .lst true ds') := rfl
@[simp] theorem q_do_t {ds : List D} {k : D → Prop} : evA1 .dictOf (.nd .tup true ds) k = (frozL ds = true ∧ ∃ ks vs, kvsT ds = some (ks, vs) ∧ ks.Nodup ∧ k (.nd (.dT ks) true vs)) := rfl
@[simp] theorem q_m_app {ds : List D} {d : D} {k : List D → D → Prop} : evM .append ds [d] k = (ds.length < sizeLine ∧ k (ds ++ [d]) (.at .non)) := rfl
@[simp] theorem q_m_pop {ds : List D} {k : List D → D → Prop} : evM .pop ds [] k = ∃ d, ds[ds.length - 1]? = some d ∧ k ds.dropLast d := rfl
@[simp] theorem q_m_popAt {ds : List D} {i : Int} {k : List D → D → Prop} : evM .popAt ds [.at (.int i)] k = (-(2 ^ 63) ≤ i ∧ i < 2 ^ 63 ∧ ∃ j d, seqIndex? i ds.length = some j ∧ ds[j]? = some d ∧ k (ds.eraseIdx j) d) := rfl
@[simp] theorem q_m_ins {ds : List D} {d : D} {i : Int} {k : List D → D → Prop} : evM .insert ds [.at (.int i), d] k = (ds.length < sizeLine ∧ 0 ≤ i ∧ i < 2 ^ 63 ∧ k (ds.take i.toNat ++ [d] ++ ds.drop i.toNat) (.at .non)) := rfl
@[simp] theorem q_cat_t {o o' : Bool} {xs ys : List D} {δ : Z.Env} {Q : D → Z.Env → Prop} : catW (.nd .tup o xs) (.nd .tup o' ys) δ Q = (xs.length + ys.length ≤ sizeLine ∧ Q (.nd .tup (if xs.length = 0 then o' else if ys.length = 0 then o else false) (xs ++ ys)) δ) := rfl
@[simp] theorem q_cat_l {xs ys : List D} {δ : Z.Env} {Q : D → Z.Env → Prop} : catW (.nd .lst true xs) (.nd .lst true ys) δ Q = (xs.length + ys.length ≤ sizeLine ∧ Q (.nd .lst true (xs ++ ys)) δ) := rfl
@[simp] theorem q_slc_t {o : Bool} {xs : List D} {l h : Option Int} {δ : Z.Env} {Q : D → Z.Env → Prop} : slcW (.nd .tup o xs) l h δ Q = (frozL xs = true ∧ Q (.nd .tup (o && decide (HT.sIx xs.length 0 l = 0 ∧ HT.sIx xs.length xs.length h = xs.length)) ((xs.drop (HT.sIx xs.length 0 l)).take (HT.sIx xs.length xs.length h - HT.sIx xs.length 0 l))) δ) := rfl
@[simp] theorem q_slc_l {o : Bool} {xs : List D} {l h : Option Int} {δ : Z.Env} {Q : D → Z.Env → Prop} : slcW (.nd .lst o xs) l h δ Q = (frozL xs = true ∧ Q (.nd .lst true ((xs.drop (HT.sIx xs.length 0 l)).take (HT.sIx xs.length xs.length h - HT.sIx xs.length 0 l))) δ) := rfl
@[simp] theorem q_call_n {ct : Ct} {ds : List D} {δ : Z.Env} {Q : D → Z.Env → Prop} : callW ct none ds δ Q = ∃ r o, ct ds r o ∧ Q r δ := rfl
@[simp] theorem q_call_s {ct : Ct} {ds : List D} {m i : Nat} {δ : Z.Env} {Q : D → Z.Env → Prop} : callW ct (some (m, i)) ds δ Q = ∃ r d', ct ds r (some d') ∧ Q r (δ.set i (some d')) := rfl
@[simp] theorem q_seq_t {o : Bool} {ds : List D} {k : List D → Prop} : seqD (.nd .tup o ds) k = (frozL ds = true ∧ k ds) := rfl
@[simp] theorem q_seq_l {o : Bool} {ds : List D} {k : List D → Prop} : seqD (.nd .lst o ds) k = (frozL ds = true ∧ k ds) := rfl
@[simp] theorem q_g_n {i : Nat} {d : D} {δ : Z.Env} {Q : Z.Env → Prop} : wpG (.name i) d δ Q = Q (δ.set i (some d)) := rfl
@[simp] theorem q_g_t {gs : List G} {o : Bool} {ds : List D} {δ : Z.Env} {Q : Z.Env → Prop} : wpG (.tup gs) (.nd .tup o ds) δ Q = (ds.length = gs.length ∧ wpGs gs ds δ Q) := rfl
@[simp] theorem q_g_nil {δ : Z.Env} {Q : Z.Env → Prop} : wpGs [] [] δ Q = Q δ := rfl
@[simp] theorem q_g_cons {g : G} {gs : List G} {d : D} {ds : List D} {δ : Z.Env} {Q : Z.Env → Prop} : wpGs (g :: gs) (d :: ds) δ Q = wpG g d δ fun δ1 => wpGs gs ds δ1 Q := rfl
@[simp] theorem q_dg_T {ks : List (List Key)} {o : Bool} {ds xs : List D} {k : Option D → Prop} : dget (.nd (.dT ks) o ds) (.nd .tup false xs) k = ∃ y, DkeyL xs = some y ∧ k (lookK (ks.zip ds) y) := rfl
@[simp] theorem q_dg_K {ks : List Key} {o : Bool} {ds : List D} {x : D} {k : Option D → Prop} : dget (.nd (.dK ks) o ds) x k = ∃ y, Dkey x = some y ∧ k (lookK (ks.zip ds) y) := rfl
@[simp] theorem q_dg_lT {ks : List (List Key)} {f : Unit → Obj × List V} {o : Bool} {ds xs : List D} {k : Option D → Prop} : dget (.nd (.lkT f ks) o ds) (.nd .tup false xs) k = ∃ y, DkeyL xs = some y ∧ k (lookK (ks.zip ds) y) := rfl
@[simp] theorem q_dg_lK {ks : List Key} {f : Unit → Obj × List V} {o : Bool} {ds : List D} {x : D} {k : Option D → Prop} : dget (.nd (.lkK f ks) o ds) x k = ∃ y, Dkey x = some y ∧ k (lookK (ks.zip ds) y) := rfl
@[simp] theorem q_dp_T {ks : List (List Key)} {ds xs : List D} {v : D} {k : D → Prop} : dput (.nd (.dT ks) true ds) (.nd .tup false xs) v k = (ds.length < sizeLine ∧ ∃ y, DkeyL xs = some y ∧ k (.nd (.dT (putKs ks ds y v).1) true (putKs ks ds y v).2)) := rfl
@[simp] theorem q_dp_K {ks : List Key} {ds : List D} {x v : D} {k : D → Prop} : dput (.nd (.dK ks) true ds) x v k = (ds.length < sizeLine ∧ ∃ y, Dkey x = some y ∧ k (.nd (.dK (putKs ks ds y v).1) true (putKs ks ds y v).2)) := rfl
@[simp] theorem q_fr_at {v : V} : (D.at v).froz = true := rfl
@[simp] theorem q_fr_t {o : Bool} {ds : List D}  : (D.nd .tup o ds).froz = frozL ds := rfl
@[simp] theorem q_fr_l {ds : List D} : (D.nd .lst true ds).froz = false := rfl
@[simp] theorem q_fr_nil  : frozL [] = true := rfl
@[simp] theorem q_fr_cons {d : D} {ds : List D} : frozL (d :: ds) = (d.froz && frozL ds) := rfl
@[simp] theorem q_fr_iL {xs : List Int} : frozL (iL xs) = true := frozL_iL xs
@[simp] theorem q_rt {mp : Option Nat} {r d : D} {o : Option D} {δ : Z.Env} : retW mp r o (.rt d δ) = (d = r ∧ ∀ m, mp = some m → ∃ d', o = some d' ∧ δ[m]? = some (some d')) := rfl
@[simp] theorem q_nx {mp : Option Nat} {r : D} {o : Option D} {δ : Z.Env} : retW mp r o (.nx δ) = (D.at .non = r ∧ ∀ m, mp = some m → ∃ d', o = some d' ∧ δ[m]? = some (some d')) := rfl
@[simp] theorem q_wipe0 {δ : Z.Env} : wipeD δ [] = δ := rfl
@[simp] theorem q_wipe1 {δ : Z.Env} {i : Nat} {is : List Nat} : wipeD δ (i :: is) = (wipeD δ is).set i none := rfl
@[simp] theorem q_unw0 {δ0 δ : Z.Env} : unwipe δ0 δ [] = δ := rfl
@[simp] theorem q_unw1 {δ0 δ : Z.Env} {i : Nat} {is : List Nat} : unwipe δ0 δ (i :: is) = (unwipe δ0 δ is).set i (δ0.getD i none) := rfl
@[simp] theorem q_compB {own : List Nat} {g : D → Z.Env → (Z.Env → Prop) → Prop} {t : Z.Env → (Bool → Z.Env → Prop) → Prop} {e : Z.Env → (D → Z.Env → Prop) → Prop} {d : D} {δ : Z.Env} {k : Option D → Z.Env → Prop} : compB own g t e d δ k = g d δ fun δ1 => t δ1 fun c δ2 => if c = true then e δ2 fun x δ3 => k (some x) (wipeD δ3 own) else k none (wipeD δ2 own) := rfl
@[simp] theorem q_startD {n : Nat} {ds : List D} : startD n ds = ds.map some ++ List.replicate (n - ds.length) none := rfl
end Z
set_option Elab.async false
set_option linter.all false
set_option maxRecDepth 100000
set_option autoImplicit false
namespace Z
open PySem PySem.Spec PyProof.Rows L2
/-! ## the head -/
section
variable {P : Program} {w : World} {K : PySem.W.Frag} {mg : Str → Option Value} {base : Heap}
/-- a call with keywords alone binds, its values set in the parameters' order -/
def permOr {α : Type} (n : Nat) (perm : List Nat) (d : α) (us ws : List α) : List α := if us.length = 0 ∧ ws.length = n then perm.map fun j => ws.getD j d else []
theorem vals_perm {zs : List V} {ws : List Value} (r : Vals zs ws) : ∀ perm : List Nat, Vals (perm.map fun j => zs.getD j .non) (perm.map fun j => ws.getD j .none)
  | [] => .nil
  | j :: perm => by
    refine .cons ?_ (vals_perm r perm)
    show RelV (zs.getD j .non) (ws.getD j .none)
    cases h : zs[j]? with
    | none =>
      have h2 := r.none_of h
      rw [List.getD_eq_getElem?_getD, List.getD_eq_getElem?_getD, h, h2]; rfl
    | some x =>
      obtain ⟨u, h2, h3⟩ := r.get h
      rw [List.getD_eq_getElem?_getD, List.getD_eq_getElem?_getD, h, h2]; exact h3
theorem kwOk {fd : FuncData} {ps ks : List Str} {n : Nat} {perm : List Nat} (hn : 0 < n) (hp : perm.Perm (List.range n)) (hps : ps.length = n) (h : ∀ ws : List Value, ws.length = n → bindArgs fd ⟨[], ks.zip ws⟩ = pure (ps.zip (perm.map fun j => ws.getD j .none))) : KwOk K fd ps n (ks, perm) := by
  refine ⟨permOr n perm .none, permOr n perm .non, ⟨fun s us ws _ hl => ?_, fun {vs us zs ws} r1 r2 => ?_⟩, hp, fun zs hz => ?_⟩
  · unfold permOr at hl ⊢
    split
    · rename_i hc
      obtain rfl := List.eq_nil_of_length_eq_zero hc.1
      exact .of_eq (h ws hc.2)
    · rename_i hc
      rw [if_neg hc, hps] at hl
      simp at hl
      omega
  · have e1 := r1.length
    have e2 := r2.length
    unfold permOr
    rw [e1, e2]
    split
    · exact vals_perm r2 perm
    · exact .nil
  · unfold permOr
    rw [if_pos ⟨rfl, hz⟩]
/-- the defs that a def may call keep their promises -/
def FnsOk (P : Program) (w : World) (K : PySem.W.Frag) (mg : Str → Option Value) (base : Heap) (k : Nat) (FT : List FnI) (Γ : Nat → Ct) (av : List Nat) : Prop := ∀ i e, i ∈ av → FT[i]? = some e → ModF P w K mg base k e (Γ i)
theorem FnsOk.nil {k : Nat} {FT : List FnI} {Γ : Nat → Ct} : FnsOk P w K mg base k FT Γ [] := fun i e h => nomatch h
theorem FnsOk.cons {j k : Nat} {FT : List FnI} {Γ : Nat → Ct} {i : Nat} {av : List Nat} {e : FnI} (M : ModF P w K mg base j e (Γ i)) (hf : FT[i]? = some e) (hjk : j ≤ k) (r : FnsOk P w K mg base k FT Γ av) : FnsOk P w K mg base k FT Γ (i :: av) := fun i' e' h hf' => by
  rcases List.mem_cons.mp h with rfl | h
  · rw [hf] at hf'; cases hf'; exact M.mono hjk
  · exact r i' e' h hf'
theorem repL_ints {H : Hp} : ∀ ns : List Int, RepL K H (ns.map V.int) (iL ns) [] []
  | [] => .nil
  | n :: ns => .cons (.at _) (repL_ints ns)
theorem sp_script {H : Hp} {a : Addr} {ns : List Int} {ct : Ct} {E : XK} (hS : SqL K H a (ns.map V.int)) (hc : ct [.nd .lst false (iL ns)] (.at (.bl true)) none) : spOf K 1 none ct [.ref a] H (fun v _ => v = .bl true) E := by
  refine ⟨[.nd .lst false (iL ns)], [], .at (.bl true), none, rfl, rfl, ?_, hc, fun v H' g => Good.at g⟩
  rcases hS with h | h
  · exact ⟨_, _, .cons (.val (.fro rfl h trivial (repL_ints ns))) .nil, .nil, fun a ha => by simp at ha⟩
  · exact ⟨_, _, .cons (.val (.kst h (repL_ints ns))) .nil, .nil, fun a ha => by simp at ha⟩
theorem nones {l : List Str} (h : ∀ x, l.contains x = true → mg x = none) : ∀ x ∈ l, mg x = none := fun x hx => h x (List.contains_iff_mem.mpr hx)
end
end Z
set_option Elab.async false
set_option linter.all false
set_option maxRecDepth 100000
set_option autoImplicit false
namespace Z
open PySem PySem.Spec PyProof.Rows L2
/-! ## more readings -/
theorem bn_max : bootBuiltins "max" = some (.builtin "max") := by decide +kernel
theorem bn_min : bootBuiltins "min" = some (.builtin "min") := by decide +kernel
theorem does_extend {X : Cx} : DoesM X rExtend .extend := fun w ds args vs H L R Q hl g h q => by
  match args, vs, hl, h with
  | [.nd .lst true es], [v], _, ⟨hz, h⟩ =>
    obtain ⟨a, xs, rfl, hl, hf, hH, g1⟩ := g.unpack rfl
    have g2 : Good X.K H (.val v (.nd .lst true es) :: .cell a (ho .lst xs) :: (vals xs ds ++ L)) := g1.perm (by
      refine .trans ?_ (List.Perm.swap _ _ _)
      exact List.Perm.cons _ List.perm_middle)
    obtain ⟨b, ys, rfl, hl2, hf2, hH2, g3⟩ := g2.unpack rfl
    refine ⟨a, b, xs, ys, rfl, rfl, hH, hH2, by rw [hl, hl2]; exact hz, q _ _ _ _ h (Good.mkat ?_)⟩
    refine Good.pack (k := .lst) (vs := xs ++ ys) rfl (by simp [hl, hl2]) trivial ?_
    have g4 : Good X.K H (.cell a (ho .lst xs) :: .cell b (ho .lst ys) :: (vals ys es ++ (vals xs ds ++ L))) := g3.perm (by
      refine .trans (List.Perm.cons _ List.perm_middle) (List.Perm.swap _ _ _))
    have g5 := g4.write (o' := ho .lst (xs ++ ys)) trivial
    rw [vals_app hl]
    refine (g5.sub (List.Sublist.cons_cons _ (List.Sublist.cons _ (List.Sublist.refl _)))).perm (List.Perm.cons _ ?_)
    rw [← List.append_assoc]
    exact List.perm_append_comm.append_right _
section
variable {X : Cx} {Γ : Nat → Ct} {mu : List Nat} {a b c o ex : Expr} {ea eb ec eo : E} {pos p apos p2 : Pos} {t1 t2 : T} {x : Str} {i : Nat} {es : List Expr} {fs : Es} {bs : List (Nat × Nat)} {K : PySem.W.Frag}
theorem call2 {r : List V → Hp → VK → Prop} {id : String} (hc : CallR X (.builtin id) r) (B : Blt X x) (hv : bootBuiltins x = some (.builtin id)) (hs : noStar a = true) (hs2 : noStar b = true) (hn : x ≠ "__name__") (hdb : (x == ("__debug__" : Str)) = false) :
    ∀ ta tb, PE X a ta → PE X b tb → PE X (.Call (.Name x p) [a, b] [] pos) (tOp (fun v w H Q => r [v, w] H Q) ta tb) := fun ta tb ha hb =>
  pe_callB hc B.gl B.no hv (pa_cons ha (pa_cons hb pa_nil (noStar_star hs2)) (noStar_star hs)) hn hdb (noStar_star hs) (by rw [noStar_any (by simp [hs2])])
theorem Does2.imp {r r' : R2} {ev : D → D → (D → Prop) → Prop} (h : Does2 X r' ev) (i : ∀ v w H Q, r' v w H Q → r v w H Q) : Does2 X r ev := fun L H v u d e R Q h1 h2 h3 q => i _ _ _ _ (h L H v u d e R Q h1 h2 h3 q)
theorem int2_eta {g : Int → Int → V} {v w : V} {H : Hp} {Q : VK} (h : rI0 g v w H Q) : ∃ i j, [v, w] = [V.int i, V.int j] ∧ Q (g i j) H := by
  obtain ⟨i, j, rfl, rfl, h⟩ := h
  exact ⟨i, j, rfl, h⟩
theorem P_max (hc : X.calm = true) (B : Blt X "max") (hs : noStar a = true) (hs2 : noStar b = true) (ha : EP X mu a ea) (hb : EP X mu b eb) : EP X mu (.Call (.Name "max" p) [a, b] [] pos) (.b .max ea eb) :=
  P_b (call2 (call_max2 hc) B bn_max hs hs2 (by decide) (by decide)) (Does2.imp does_iop0 fun _ _ _ _ h => int2_eta h) ha hb
theorem P_min (hc : X.calm = true) (B : Blt X "min") (hs : noStar a = true) (hs2 : noStar b = true) (ha : EP X mu a ea) (hb : EP X mu b eb) : EP X mu (.Call (.Name "min" p) [a, b] [] pos) (.b .min ea eb) :=
  P_b (call2 (call_min2 hc) B bn_min hs hs2 (by decide) (by decide)) (Does2.imp does_iop0 fun _ _ _ _ h => int2_eta h) ha hb
theorem E_max (hc : X.calm = true) (B : Blt X "max") (hs : noStar a = true) (hs2 : noStar b = true) (ha : EE X Γ mu a ea) (hb : EE X Γ mu b eb) : EE X Γ mu (.Call (.Name "max" p) [a, b] [] pos) (.b .max ea eb) :=
  E_b (call2 (call_max2 hc) B bn_max hs hs2 (by decide) (by decide)) (Does2.imp does_iop0 fun _ _ _ _ h => int2_eta h) ha hb
theorem E_min (hc : X.calm = true) (B : Blt X "min") (hs : noStar a = true) (hs2 : noStar b = true) (ha : EE X Γ mu a ea) (hb : EE X Γ mu b eb) : EE X Γ mu (.Call (.Name "min" p) [a, b] [] pos) (.b .min ea eb) :=
  E_b (call2 (call_min2 hc) B bn_min hs hs2 (by decide) (by decide)) (Does2.imp does_iop0 fun _ _ _ _ h => int2_eta h) ha hb
/-! in, not in -/
theorem evB_in {neg : Bool} : EvB (evIn neg) := fun x y k h => by
  unfold evIn at h ⊢
  split at h
  · obtain ⟨vs, e, f1, f2, h⟩ := h; exact ⟨vs, e, f1, f2, _, rfl, h⟩
  · obtain ⟨vs, e, f1, f2, h⟩ := h; exact ⟨vs, e, f1, f2, _, rfl, h⟩
  · exact h.elim
theorem evB_inD {neg : Bool} : EvB (evInD neg) := fun x y k h => by
  unfold evInD at h ⊢
  split at h
  · obtain ⟨d, es, e1, e2, s1, s2, h⟩ := h; exact ⟨d, es, e1, e2, s1, s2, _, rfl, h⟩
  · exact h.elim
theorem PT_in (hm : behindInMarks .In b = false) (ha : EP X mu a ea) (hb : EP X mu b eb) : EPT X mu (.Compare a [.In] [b] pos) (.v (.b .isin ea eb)) := pt_b op_in_seq does_in evB_in ha hb hm
theorem PT_notin (hm : behindInMarks .NotIn b = false) (ha : EP X mu a ea) (hb : EP X mu b eb) : EPT X mu (.Compare a [.NotIn] [b] pos) (.v (.b .notin ea eb)) := pt_b op_notIn_seq does_in evB_in ha hb hm
theorem T_in (hm : behindInMarks .In b = false) (ha : EE X Γ mu a ea) (hb : EE X Γ mu b eb) : ET X Γ mu (.Compare a [.In] [b] pos) (.v (.b .isin ea eb)) := et_b op_in_seq does_in evB_in ha hb hm
theorem T_notin (hm : behindInMarks .NotIn b = false) (ha : EE X Γ mu a ea) (hb : EE X Γ mu b eb) : ET X Γ mu (.Compare a [.NotIn] [b] pos) (.v (.b .notin ea eb)) := et_b op_notIn_seq does_in evB_in ha hb hm
theorem PT_inD (hu : X.A.units + 65 < cLine) (hm : behindInMarks .In b = false) (ha : EP X mu a ea) (hb : EP X mu b eb) : EPT X mu (.Compare a [.In] [b] pos) (.v (.b .isinD ea eb)) := pt_b (op_inD hu) does_inD evB_inD ha hb hm
theorem PT_notinD (hu : X.A.units + 65 < cLine) (hm : behindInMarks .NotIn b = false) (ha : EP X mu a ea) (hb : EP X mu b eb) : EPT X mu (.Compare a [.NotIn] [b] pos) (.v (.b .notinD ea eb)) := pt_b (op_notInD hu) does_notInD evB_inD ha hb hm
/-! count, index -/
theorem P_mq {op : U2} {r : V → List V → Hp → VK → Prop} {name : Str} {id : String} (slot : Slot "list" name id) (hty : typeOf (.builtin id) = pure (.type "method_descriptor")) (hm : MtR X id r) (hd : Does2 X (fun x y H Q => tyV X.K "list" x H ∧ r x [y] H Q) (ev2 op))
    (hb0 : attributeBase a name X.env (eval a X.env) = eval a X.env) (hf : Few X [b] pos) (hl : (apos.endLine == pos.line) = true) (hs : noStar b = true) (ha : EP X mu a ea) (hb : EP X mu b eb) : EP X mu (.Call (.Attribute a name apos) [b] [] pos) (.mq op ea eb) :=
  PEmono (pe_bm PySem.F.plainAttrs_list slot hty hm ha (pa_cons hb pa_nil (noStar_star hs)) hb0 hf.few hl (noStar_star hs) rfl) fun σ H Q ⟨pn, δ, Fr, R, hp, s, h, q⟩ => ⟨pn, δ, Fr, _, hp, s, h, fun d v ⟨⟨o, ds, e⟩, hr⟩ i => by
    subst e
    obtain ⟨l, us, rfl, hl, rd, _⟩ := i.nd
    exact ⟨.inl ⟨rfl, us, rd⟩, pn, δ, Fr, _, hp, s, hr, fun y u hr2 j => (hd _ H _ u _ y R Q i j hr2 fun w dr hr3 i2 => q dr w hr3 i2).2⟩⟩
theorem P_count (hb0 : attributeBase a "count" X.env (eval a X.env) = eval a X.env) (hf : Few X [b] pos) (hl : (apos.endLine == pos.line) = true) (hs : noStar b = true) (ha : EP X mu a ea) (hb : EP X mu b eb) : EP X mu (.Call (.Attribute a "count" apos) [b] [] pos) (.mq .cnt ea eb) :=
  P_mq PySem.F.slot_list_count PySem.F.type_list_count mt_cntS does_cnt hb0 hf hl hs ha hb
theorem P_index (hu : X.A.units + 65 < cLine) (hb0 : attributeBase a "index" X.env (eval a X.env) = eval a X.env) (hf : Few X [b] pos) (hl : (apos.endLine == pos.line) = true) (hs : noStar b = true) (ha : EP X mu a ea) (hb : EP X mu b eb) : EP X mu (.Call (.Attribute a "index" apos) [b] [] pos) (.mq .index ea eb) :=
  P_mq PySem.F.slot_list_index PySem.F.type_list_index (mt_indexD hu) does_index hb0 hf hl hs ha hb
end
end Z
set_option Elab.async false
set_option linter.all false
set_option maxRecDepth 100000
set_option autoImplicit false
namespace Z
open PySem PySem.Spec PyProof.Rows L2
theorem good_dupL {K : PySem.W.Frag} {H : Hp} : ∀ {ds : List D} {vs : List V} {L : List Res}, vs.length = ds.length → frozL ds = true → Good K H (vals vs ds ++ L) → Good K H (vals vs ds ++ (vals vs ds ++ L))
  | [], [], L, _, _, g => g
  | d :: ds, v :: vs, L, hl, hf, g => by
    simp only [frozL, Bool.and_eq_true] at hf
    have g1 : Good K H (.val v d :: .val v d :: (vals vs ds ++ L)) := Good.dup hf.1 g
    have g2 : Good K H (vals vs ds ++ (.val v d :: .val v d :: L)) := g1.perm (by
      refine .trans (List.Perm.cons _ List.perm_middle.symm) ?_
      exact List.perm_middle.symm)
    have g3 := good_dupL (ds := ds) (vs := vs) (by simpa using hl) hf.2 g2
    refine g3.perm ?_
    show (vals vs ds ++ (vals vs ds ++ (Res.val v d :: Res.val v d :: L))).Perm (Res.val v d :: (vals vs ds ++ (Res.val v d :: (vals vs ds ++ L))))
    have p1 : (vals vs ds ++ (Res.val v d :: Res.val v d :: L)).Perm (Res.val v d :: Res.val v d :: (vals vs ds ++ L)) := List.perm_middle.trans (List.Perm.cons _ List.perm_middle)
    refine (p1.append_left _).trans ?_
    exact List.perm_middle
theorem good_rep {K : PySem.W.Frag} {H : Hp} {ds : List D} {vs : List V} {L : List Res} (hl : vs.length = ds.length) (hf : frozL ds = true) (g : Good K H (vals vs ds ++ L)) : ∀ n : Nat, Good K H (vals (List.replicate n vs).flatten (List.replicate n ds).flatten ++ (vals vs ds ++ L))
  | 0 => g
  | n + 1 => by
    have ih := good_rep hl hf g n
    rw [List.replicate_succ, List.replicate_succ, List.flatten_cons, List.flatten_cons, vals_app hl, List.append_assoc]
    have g2 : Good K H (vals vs ds ++ (vals (List.replicate n vs).flatten (List.replicate n ds).flatten ++ L)) := ih.perm (by
      rw [← List.append_assoc, ← List.append_assoc]
      exact List.perm_append_comm.append_right _)
    have g3 := good_dupL hl hf g2
    refine g3.perm (List.Perm.append_left _ ?_)
    rw [← List.append_assoc, ← List.append_assoc]
    exact List.perm_append_comm.append_right _
theorem rep_len {α β : Type} {xs : List α} {ys : List β} (h : xs.length = ys.length) (n : Nat) : (List.replicate n xs).flatten.length = (List.replicate n ys).flatten.length := by
  induction n with
  | zero => rfl
  | succ n ih => rw [List.replicate_succ, List.replicate_succ, List.flatten_cons, List.flatten_cons, List.length_append, List.length_append, h, ih]
theorem putK_new {α : Type} {acc : List (Key × V)} {k : Key} {v : V} (h : k ∉ acc.map (·.1)) : putK acc k v = acc ++ [(k, v)] := by
  unfold putK
  have : (acc.any fun kv => decide (kv.1 = k)) = false := by
    rw [List.any_eq_false]
    intro p hp e
    exact h (List.mem_map.mpr ⟨p, hp, by simpa using e⟩)
  simp [this]
theorem mergeK_nodup : ∀ (more acc : List (Key × V)), ((acc ++ more).map (·.1)).Nodup → mergeK acc more = acc ++ more
  | [], acc, _ => by simp [mergeK]
  | p :: more, acc, h => by
    have hn : p.1 ∉ acc.map (·.1) := by
      rw [List.map_append, List.nodup_append] at h
      intro hm
      exact h.2.2 p.1 hm p.1 (by simp) rfl
    show mergeK (putK acc p.1 p.2) more = _
    rw [putK_new (α := Nat) hn, mergeK_nodup more (acc ++ [p]) (by simpa using h)]
    simp
theorem kvK_some {d : D} {kv : Key × D} (h : kvK d = some kv) : ∃ o x, d = .nd .tup o [x, kv.2] ∧ Dkey x = some kv.1 := by
  unfold kvK at h
  split at h
  · obtain ⟨k, e, rfl⟩ := Option.map_eq_some_iff.mp h
    exact ⟨_, _, rfl, e⟩
  · cases h
theorem pairsK_open {K : PySem.W.Frag} {H : Hp} : ∀ {ds : List D} {us : List V} {ks : List Key} {vs : List D} {L : List Res}, kvsK ds = some (ks, vs) → us.length = ds.length → Good K H (vals us ds ++ L) →
    ∃ ps ws, us = ps.map V.ref ∧ ws.length = vs.length ∧ ks.length = ws.length ∧ Paired (fun p kv => SqT K H p [kV kv.1, kv.2]) ps (ks.zip ws) ∧ Good K H (vals ws vs ++ L)
  | [], us, ks, vs, L, h, hl, g => by
    cases h
    have : us = [] := List.eq_nil_of_length_eq_zero hl
    subst this
    exact ⟨[], [], rfl, rfl, rfl, .nil, g⟩
  | d :: ds, [], _, _, _, _, hl, _ => by simp at hl
  | d :: ds, u :: us, ks, vs, L, h, hl, g => by
    obtain ⟨kv, e1, h⟩ := Option.bind_eq_some_iff.mp (show (kvK d).bind _ = _ from h)
    obtain ⟨r, e2, h⟩ := Option.map_eq_some_iff.mp h
    cases h
    obtain ⟨o, x, rfl, ek⟩ := kvK_some e1
    have g : Good K H (.val u (.nd .tup o [x, kv.2]) :: (vals us ds ++ L)) := g
    obtain ⟨a, vs2, rfl, hl2, ha, g1⟩ := g.untup
    match vs2, hl2, g1, ha with
    | [y, w], _, g1, ha =>
      have iy := Good.in (v := y) (d := x) g1 List.mem_cons_self
      have ey := Dkey_ok ek iy
      subst ey
      have g2 : Good K H (vals us ds ++ (.val w kv.2 :: L)) := (Good.drop (show Good K H (.val (kV kv.1) x :: (.val w kv.2 :: (vals us ds ++ L))) from g1)).perm List.perm_middle.symm
      obtain ⟨ps, ws, e3, h1, h2, h3, g3⟩ := pairsK_open e2 (by simpa using hl) g2
      exact ⟨a :: ps, w :: ws, by rw [e3]; rfl, by simp [h1], by simp [h2], .cons (.inl ha.rd) h3, g3.perm List.perm_middle⟩
section
variable {X : Cx} {Γ : Nat → Ct} {mu : List Nat} {a b c o ex : Expr} {ea eb ec eo : E} {pos p apos p2 : Pos} {t1 t2 : T} {x : Str} {i : Nat} {es : List Expr} {fs : Es} {bs : List (Nat × Nat)} {K : PySem.W.Frag}
/-! ### x[k] of a name: a list, a tuple, a dict -/
theorem PEor {t t' u : TE} (h : PE X ex t) (h' : PE X ex t') (i : ∀ σ H Q, u σ H Q → t σ H Q ∨ t' σ H Q) : PE X ex u :=
  ⟨fun pins s σ H Q I q => (i σ H Q q).elim (h.run pins s σ H Q I) (h'.run pins s σ H Q I)⟩
theorem P_ixd (hN : X.N[i]? = some x) (hv : Vis X.env.scope x) (hd : (x == ("__debug__" : Str)) = false) (hcd : (x == ("__classdict__" : Str)) = false) (hu : X.A.units + 1 < cLine) (hs : noLc b = true) (hb : EP X mu b eb) :
    EP X mu (.Subscript (.Name x p) b pos) (.ixd i eb) :=
  PEor (P_idx hs (P_var i hN hv hd hcd) hb) (P_dget hu hs (P_var i hN hv hd hcd) hb) fun σ H Q ⟨pn, δ, Fr, R, hp, sm, ⟨d, e, h⟩, q⟩ => by
    have left : (wpP eb δ fun y => evIdx d y R) → (liftP X.K mu (wpP (.b .idx (.var i) eb))) σ H Q := fun h => ⟨pn, δ, Fr, R, hp, sm, ⟨d, e, h⟩, q⟩
    have right : (wpP eb δ fun y => dget d y fun o => ∃ r, o = some r ∧ R r) → (liftP X.K mu (wpP (.dget (.var i) eb))) σ H Q := fun h => ⟨pn, δ, Fr, R, hp, sm, ⟨d, e, h⟩, q⟩
    match d, h, left, right with
    | .at v, h, _, right => exact .inr (right h)
    | .nd .tup o ds, h, left, _ => exact .inl (left h)
    | .nd .lst o ds, h, left, _ => exact .inl (left h)
    | .nd (.dK ks) o ds, h, _, right => exact .inr (right h)
    | .nd (.dT ks) o ds, h, _, right => exact .inr (right h)
    | .nd (.lkK f ks) o ds, h, _, right => exact .inr (right h)
    | .nd (.lkT f ks) o ds, h, _, right => exact .inr (right h)
/-- x[e], e first by value -/
theorem E_ixL (hN : X.N[i]? = some x) (hv : Vis X.env.scope x) (hd : (x == ("__debug__" : Str)) = false) (hcd : (x == ("__classdict__" : Str)) = false) (hs : noLc b = true) (hb : EE X Γ mu b eb) : EE X Γ mu (.Subscript (.Name x p) b pos) (.ixL i eb) :=
  PEmono (pe_ix ix_seq (pe_var hN hv hd hcd) hb (noLc_ix hs)) fun σ H Q ⟨pn, δ, Fr, R, hp, s, ⟨⟨d0, e0⟩, h⟩, q⟩ => by
    obtain ⟨w, e1, _⟩ := s.get e0
    refine ⟨w, e1, pn, δ, Fr, _, hp, s, h, fun y δ1 u H1 ⟨d, e2, hr⟩ s1 => ?_⟩
    obtain ⟨w', e3, i3⟩ := s1.get e2
    obtain rfl : w = w' := by rw [e1] at e3; exact Option.some.inj (Option.some.inj e3)
    exact does_idx _ H1 w u d y _ Q i3 (s1.seen List.mem_cons_self) hr fun z dr hr2 i2 => q dr δ1 z H1 hr2.2 ((s1.hold i2 hr2.1).under (L := [_]))
/-! ## a text several times -/
theorem repS_le {z : Str} {n : Int} (h : n < 1) : repS z n = Str.empty := by
  have e : n.toNat = 0 := by omega
  unfold repS
  rw [e]
  rfl
theorem repS_one {z : Str} {n : Int} (h : (n == 1 || z.length == 0) = true) (h0 : ¬ n < 1) : repS z n = z := by
  rcases Bool.or_eq_true _ _ ▸ h with h | h
  · have e : n = 1 := eq_of_beq h
    subst e
    unfold repS
    simp
  · have e : z.length = 0 := eq_of_beq h
    have e2 : z.cps = #[] := Array.eq_empty_of_size_eq_zero e
    unfold repS
    rw [e2]
    simp
    obtain ⟨c⟩ := z
    simp only at e2
    rw [e2]
/-- what text * n leaves: the text itself, or a new one -/
theorem mul_str_tok {prog : Program} {w : World} {A : Around} {E : Value → Shared → Prop} {s : Shared} {z : Str} {n : Int} {t t' : Tok} {Q : Value → Shared → Prop} (h1 : -(2 ^ 63) ≤ n) (h2 : n < 2 ^ 63) (h3 : z.length * n.toNat ≤ 16777216)
    (q : ∀ v k, (v = t ∨ v = s.toks) → s.toks ≤ k → Q (.str (repS z n) v) { s with toks := k }) : wpAny (model prog w) A (binaryOp .Mult (.str z t) (.int n t')) Q E s := by
  have hn : 0 < z.length → n.toNat ≤ 16777216 := fun h => by
    have : 1 * n.toNat ≤ z.length * n.toNat := Nat.mul_le_mul_right _ h
    omega
  have hpos : (n == 1 || z.length == 0) = false → 0 < z.length := fun hb => by
    rw [Bool.or_eq_false_iff] at hb
    have := beq_eq_false_iff_ne.mp hb.2
    omega
  refine PySem.P.mul_str ?_ (fun h4 hb => ?_) (fun h4 hb => ?_) ?_
  · rw [decide_eq_false (by omega), decide_eq_false (by omega)]; rfl
  · have hz : (z.length : Int) ≤ 16777216 := by
      have : z.length * 1 ≤ z.length * n.toNat := Nat.mul_le_mul_left _ (by omega)
      omega
    have : (16777216 : Int) ≤ (2 ^ 63 - 1) / n := by
      have h5 : n ≤ 16777216 := by have := hn (hpos hb); omega
      rw [Int.le_ediv_iff_mul_le (by omega)]
      have : (16777216 : Int) * n ≤ 16777216 * 16777216 := Int.mul_le_mul_of_nonneg_left h5 (by decide)
      omega
    omega
  · exact short24 (by omega)
  · by_cases h4 : n < 1
    · rw [if_pos h4, ← repS_le (z := z) h4]
      exact ⟨by rw [repS_len, sizeLine_eq]; exact h3, q _ _ (.inr rfl) (Nat.le_succ _)⟩
    · rw [if_neg h4]
      by_cases hb : (n == 1 || z.length == 0) = true
      · rw [if_pos hb]
        have := q t s.toks (.inl rfl) (Nat.le_refl _)
        rw [repS_one hb h4] at this
        exact this
      · rw [if_neg hb, repS_eq]
        exact ⟨by rw [repS_len, sizeLine_eq]; exact h3, q _ _ (.inr rfl) (Nat.le_succ _)⟩
theorem mul_str_all {prog : Program} {w : World} {A : Around} {E : Value → Shared → Prop} {s : Shared} {z : Str} {n : Int} {t t' : Tok} {Q : Value → Shared → Prop} (h1 : -(2 ^ 63) ≤ n) (h2 : n < 2 ^ 63) (h3 : z.length * n.toNat ≤ 16777216)
    (q : ∀ v k, RelV (.str (repS z n)) v → Q v { s with toks := k }) : wpAny (model prog w) A (binaryOp .Mult (.str z t) (.int n t')) Q E s :=
  mul_str_tok h1 h2 h3 fun v k _ _ => q _ k ⟨v, rfl⟩
theorem op_mulS {X : Cx} : OpR X (binaryOp .Mult) (fun x y H Q => ∃ (z : Str) (n : Int), x = .str z ∧ y = .int n ∧ -(2 ^ 63) ≤ n ∧ n < 2 ^ 63 ∧ z.length * n.toNat ≤ 16777216 ∧ Q (.str (repS z n)) H) := by
  intro pins s σ H x y v u Q I rx ry h
  obtain ⟨z, n, rfl, rfl, h1, h2, h3, q⟩ := h
  obtain ⟨t, rfl⟩ := rx
  obtain ⟨t', rfl⟩ := ry
  exact mul_str_all h1 h2 h3 (fun v k rv => ⟨V.str (repS z n), H, I.tok k, rv, q⟩)
/-! ## a tuple several times -/
theorem op_repTW : OpR X (binaryOp .Mult) (fun x y H Q => ∃ l k xs, x = .ref l ∧ y = .int k ∧ SqT X.K H l xs ∧ xs ≠ [] ∧ 2 ≤ k ∧ xs.length * k.toNat ≤ 1000000 ∧ ∀ p, H p = none → Q (.ref p) (upd H p (.tup (List.replicate k.toNat xs).flatten))) := by
  intro pins s σ H x y v u Q I rx ry h
  obtain ⟨l, k, xs, rfl, rfl, hT, hne, h1, hz, q⟩ := h
  cases rx
  obtain ⟨t, rfl⟩ := ry
  obtain ⟨its, r, ⟨⟨cls, dd, data, sl⟩, ho, hc, n, hd⟩, hs⟩ := I.tuple hT
  simp only at hc hd
  subst hc hd
  have hle : its.length = xs.length := r.length.symm
  have hpos : 1 ≤ xs.length := by
    cases xs with
    | nil => exact absurd rfl hne
    | cons a b => simp
  have hi : its.toArray.isEmpty = false := by
    cases its with
    | nil => simp at hle; omega
    | cons a b => rfl
  have hsz0 : its.toArray.size = xs.length := by rw [List.size_toArray, hle]
  have hk : k.toNat ≤ 1000000 := by
    have : 1 * k.toNat ≤ xs.length * k.toNat := Nat.mul_le_mul_right _ hpos
    omega
  have hm : ((its.toArray.size : Nat) : Int) * k ≤ 1000000 := by
    rw [hsz0]
    have e : (k : Int) = (k.toNat : Int) := by omega
    rw [e, ← Int.natCast_mul]
    omega
  have flen : (List.replicate k.toNat its).flatten.length ≤ sizeLine := by
    rw [PyProof.Rows.lm_len_rep_flat, hle, sizeLine_eq, Nat.mul_comm]
    omega
  have c0 : (decide (k < -(2 ^ 63)) || decide (k ≥ 2 ^ 63)) = false := by
    rw [decide_eq_false (by omega), decide_eq_false (by omega)] <;> rfl
  have c1 : (its.toArray.isEmpty || k == 1) = false := by
    rw [hi, Bool.false_or]
    exact beq_eq_false_iff_ne.mpr (by omega)
  have c2 : (decide (k ≤ 0) || its.toArray.isEmpty) = false := by
    rw [hi, Bool.or_false]
    exact decide_eq_false (by omega)
  have c4 : Builtin.Tuple.tupleTooMany (((its.toArray.size : Nat) : Int) * k) = false := by
    unfold Builtin.Tuple.tupleTooMany
    rw [sizeLine_eq]
    exact decide_eq_false (by omega)
  refine wpAny_binaryOp_repeat_ref (T := "tuple") (U := "int") (by decide) ⟨_, ho, rfl⟩ (fun s' => typeIs_int s' k t) noFill_tuple_mul F.fills_int_mul F.slot_int_rmul repeat_tuple F.slot_int_index.lookup
    (call_meets F.slot_int_rmul (typeIs_int s k t) F.entry_int_rmul (F.args_int_rmul_2 _ _) (int_rmul_tuple k t l its.toArray n dd sl)
      ⟨ho, rfl, ⟨_, ho, rfl⟩, call_meets F.slot_tuple_mul ⟨_, ho, rfl⟩ F.entry_tuple_mul (F.args_tuple_mul_2 _ _) (tuple_mulW l its.toArray n dd sl k t c0 c1 c2 (by omega) c4 (by rw [size_rep, List.size_toArray]; exact flen)) ⟨ho, ?_⟩⟩)
  rw [size_rep]
  refine ⟨.ref s.heap.objs.size, _, I.laid (t' := s.toks) (o := .tup (List.replicate k.toNat xs).flatten) (fun b ob q => Heap.get?_push_of_some _ q) (Nat.le_refl _) ?_, rfl, q _ (I.hok.fresh (Nat.le_refl _))⟩
  exact ⟨by rw [PyProof.Rows.lm_len_rep_flat, sizeLine_eq, Nat.mul_comm]; omega, _, r.rep k.toNat, IsTup.new _ _⟩
/-- xs * n -/
theorem E_rep (ha : EE X Γ mu a ea) (hb : EE X Γ mu b eb) : EE X Γ mu (.BinOp a .Mult b pos) (.rep ea eb) :=
  PEmono (pe_op (op_rep.or (op_repTW.or op_mulS)) ha hb) fun σ H Q ⟨pn, δ, Fr, R, hp, s, h, q⟩ => ⟨pn, δ, Fr, _, hp, s, h, fun x δ1 v H1 hr s1 => ⟨pn, δ1, _, _, hp, s1, hr, fun y δ2 u H2 hr2 s2 => by
    match x, y, hr2 with
    | .nd .lst true xs, .at (.int n), ⟨hf, h1, h2, hz, h⟩ =>
      have eu := (s2.seen (v := u) (d := .at (.int n)) List.mem_cons_self).at
      have s3 : Sim X.K pn σ δ2 (.val v (.nd .lst true xs) :: Fr) H2 := s2.drop
      obtain ⟨l, us, rfl, hl, _, hH, g⟩ := Good.unpack (L := Fr ++ envR σ δ2) rfl (Sim.front2 (A := [_]) s3)
      have g1 : Good X.K H2 (vals us xs ++ (Fr ++ envR σ δ2)) := g.drop
      have g2 := good_rep hl hf g1 n.toNat
      refine .inl ⟨l, n, us, rfl, eu, hH, h1, h2, by rw [hl]; exact hz, fun p np => q _ δ2 _ _ h (s3.ofc ?_)⟩
      have hl2 := rep_len hl n.toNat
      refine Good.pack (k := .lst) rfl hl2 trivial ?_
      have g3 := Good.alloc (o := .lst (List.replicate n.toNat us).flatten) g2 np trivial
      exact g3.sub (List.Sublist.cons_cons _ ((List.Sublist.refl _).append (List.sublist_append_right _ _)))
    | .at (.str w), .at (.int n), ⟨h1, h2, h3, hR⟩ =>
      have eu := (s2.seen (v := u) (d := .at (.int n)) List.mem_cons_self).at
      have ev := (s2.seen (v := v) (d := .at (.str w)) (by simp)).at
      exact .inr (.inr ⟨w, n, ev, eu, h1, h2, h3, q _ δ2 _ _ hR (s2.drop.drop.mkat)⟩)
    | .nd .tup o xs, .at (.int n), ⟨hf, hne, h2, hz, hR⟩ =>
      have eu := (s2.seen (v := u) (d := .at (.int n)) List.mem_cons_self).at
      have s3 : Sim X.K pn σ δ2 (.val v (.nd .tup o xs) :: Fr) H2 := s2.drop
      obtain ⟨l, us, rfl, hl, ht, g⟩ := Good.untup (L := Fr ++ envR σ δ2) (Sim.front2 (A := [_]) s3)
      have g2 := good_rep hl hf g n.toNat
      have hus : us ≠ [] := fun z => by rw [z] at hl; exact hne (List.eq_nil_of_length_eq_zero hl.symm)
      refine .inr (.inl ⟨l, n, us, rfl, eu, .inl ht.rd, hus, h2, by rw [hl]; exact hz, fun p np => q _ δ2 _ _ hR (s3.ofc ?_)⟩)
      have hl2 := rep_len hl n.toNat
      have g3 : Good X.K H2 (vals (List.replicate n.toNat us).flatten (List.replicate n.toNat xs).flatten ++ (Fr ++ envR σ δ2)) := g2.sub ((List.Sublist.refl _).append (List.sublist_append_right _ _))
      exact Good.mktup hl2 upd_same (g3.same (same_new np))⟩⟩
/-! ### list(d), dict(pairs) -/
theorem does_listD : DoesA X (fun x H Q => ∃ (a : Addr) (kvs : List (Key × V)), [x] = [.ref a] ∧ Rd H a (.dK kvs) ∧ ∀ p, H p = none → Q (.ref p) (upd H p (.lst (kvs.map fun kv => kV kv.1)))) (evA1 .listD) := fun L H v d R Q i h q => by
  match d, h with
  | .nd (.dK ks) o ds, h =>
    obtain ⟨a, vs, rfl, rd, hf⟩ := i.fitK
    refine ⟨a, ks.zip vs, rfl, rd, fun p np => q _ _ _ h ?_⟩
    have e : ((ks.zip vs).map fun kv => kV kv.1) = ks.map kV := by
      have := congrArg (List.map kV) (List.map_fst_zip (l₁ := ks) (l₂ := vs) (Nat.le_of_eq hf.1))
      rw [List.map_map] at this
      exact this
    rw [e]
    exact Good.pack (k := .lst) rfl (by simp) trivial ((good_atoms i.good ks).alloc np trivial)
theorem E_listD (hc : X.calm = true) (B : Blt X "list") (hs : noStar a = true) (ha : EE X Γ mu a ea) : EE X Γ mu (.Call (.Name "list" p) [a] [] pos) (.a1 .listD ea) := E_a1 (callT1 (call_listD hc) B bn_list hs (by decide) (by decide)) does_listD ha
theorem E_listDV (hc : X.calm = true) (B : Blt X "list") (hs : noStar a = true) (ha : EP X mu a ea) : EE X Γ mu (.Call (.Name "list" p) [a] [] pos) (.av .listD ea) := E_av (callT1 (call_listD hc) B bn_list hs (by decide) (by decide)) does_listD ha
theorem does_dictL : DoesA X (fun x H Q => ∃ (a : Addr) (ps : List Addr) (kvs : List (Key × V)), [x] = [.ref a] ∧ SqL X.K H a (ps.map V.ref) ∧ Paired (fun p kv => SqT X.K H p [kV kv.1, kv.2]) ps kvs ∧ ∀ p, H p = none → Q (.ref p) (upd H p (.dK (mergeK [] kvs)))) (evA1 .dictL) := fun L H v d R Q i h q => by
  match d, h with
  | .nd .lst o ds, ⟨hf, ks, vs, e, hn, h⟩ =>
    obtain ⟨a, us, rfl, hl, rd, g⟩ := i.holdL hf
    obtain ⟨ps, ws, rfl, h1, h2, h3, g2⟩ := pairsK_open e hl g
    have hm : mergeK [] (ks.zip ws) = ks.zip ws := by
      have := mergeK_nodup (ks.zip ws) [] (by rw [List.nil_append, List.map_fst_zip (Nat.le_of_eq h2)]; exact hn)
      simpa using this
    refine ⟨a, ps, ks.zip ws, rfl, rd, h3, fun p np => q _ _ _ h ?_⟩
    rw [hm]
    exact Good.pack (k := .dK ks) rfl h1 ⟨h2, hn⟩ (g2.alloc np trivial)
theorem E_dictL (hc : X.calm = true) (B : Blt X "dict") (hs : noStar a = true) (ha : EE X Γ mu a ea) : EE X Γ mu (.Call (.Name "dict" p) [a] [] pos) (.a1 .dictL ea) := E_a1 (callT1 (call_dictP hc) B bn_dict hs (by decide) (by decide)) does_dictL ha
theorem E_dictLV (hc : X.calm = true) (B : Blt X "dict") (hs : noStar a = true) (ha : EP X mu a ea) : EE X Γ mu (.Call (.Name "dict" p) [a] [] pos) (.av .dictL ea) := E_av (callT1 (call_dictP hc) B bn_dict hs (by decide) (by decide)) does_dictL ha
/-! ### range of two and three -/
theorem I_rng2 {tg : Expr} (B : Blt X "range") (hs : noStar a = true) (hs2 : noStar b = true) (ha : EA X Γ mu bs [a, b] fs) : EI X Γ mu tg (.Call (.Name "range" p) [a, b] [] pos) (.rng2 fs) :=
  PImono (pi_range2 B.gl B.no ha (by rw [noStar_star hs, noStar_star hs2]; rfl) (noStar_star hs2)) fun σ H R ⟨pn, δ, Fr, S, hp, s, h, q⟩ => ⟨pn, δ, Fr, _, hp, s, h, fun ds δ1 vs H1 hr hl hb s1 => by
    match ds, vs, hl, hr with
    | [.at (.int i), .at (.int j)], [v, w], _, ⟨h1, hr⟩ =>
      have e1 := (s1.seen (v := v) (d := .at (.int i)) List.mem_cons_self).at
      have e2 := (s1.seen (v := w) (d := .at (.int j)) (List.mem_cons_of_mem _ List.mem_cons_self)).at
      refine ⟨i, j, by rw [e1, e2], h1, q _ δ1 _ [] H1 hr ?_ (Sim.drop (Sim.drop s1))⟩
      refine ⟨fun H L g => ?_, fun t H L hi g => ?_, fun t H L x H' d hd g y => ?_⟩
      · show (j - i).toNat ≤ _; simp
      · show t < (j - i).toNat; simpa using hi
      · obtain ⟨rfl, rfl⟩ := y
        have e : d = .at (.int (i + (t : Int))) := by
          simp only [List.getElem?_map, Option.map_eq_some_iff] at hd
          obtain ⟨u, e1, e2⟩ := hd
          have e3 := List.getElem?_eq_some_iff.mp e1
          obtain ⟨_, e3⟩ := e3
          rw [List.getElem_range] at e3
          rw [← e2, ← e3]
        subst e
        exact g.mkat⟩
theorem I_rng3 {tg : Expr} (B : Blt X "range") (hs : noStar a = true) (hs2 : noStar b = true) (hs3 : noStar c = true) (ha : EA X Γ mu bs [a, b, c] fs) : EI X Γ mu tg (.Call (.Name "range" p) [a, b, c] [] pos) (.rng3 fs) :=
  PImono (pi_range3 B.gl B.no ha (noStar_star hs) (noStar_any (by simp [hs2, hs3]))) fun σ H R ⟨pn, δ, Fr, S, hp, s, h, q⟩ => ⟨pn, δ, Fr, _, hp, s, h, fun ds δ1 vs H1 hr hl hb s1 => by
    match ds, vs, hl, hr with
    | [.at (.int i), .at (.int j), .at (.int k)], [v, w, z], _, ⟨n, h1, hr⟩ =>
      have e1 := (s1.seen (v := v) (d := .at (.int i)) List.mem_cons_self).at
      have e2 := (s1.seen (v := w) (d := .at (.int j)) (List.mem_cons_of_mem _ List.mem_cons_self)).at
      have e3 := (s1.seen (v := z) (d := .at (.int k)) (List.mem_cons_of_mem _ (List.mem_cons_of_mem _ List.mem_cons_self))).at
      refine ⟨i, j, k, n, by rw [e1, e2, e3], h1, q _ δ1 _ [] H1 hr ?_ (Sim.drop (Sim.drop (Sim.drop s1)))⟩
      refine ⟨fun H L g => ?_, fun t H L hi g => ?_, fun t H L x H' d hd g y => ?_⟩
      · show n ≤ _; simp
      · show t < n; simpa using hi
      · obtain ⟨rfl, rfl⟩ := y
        have e : d = .at (.int (i + (t : Int) * k)) := by
          simp only [List.getElem?_map, Option.map_eq_some_iff] at hd
          obtain ⟨u, e1, e2⟩ := hd
          have e3 := List.getElem?_eq_some_iff.mp e1
          obtain ⟨_, e3⟩ := e3
          rw [List.getElem_range] at e3
          rw [← e2, ← e3]
        subst e
        exact g.mkat⟩
/-! ### raise; xs[f(..)] = v -/
theorem S_rse {e : Option Expr} {e2 : Option Expr} : ES X Γ mu (.Raise e e2 pos) .rse := fun W _ => ⟨fun pins s σ H Dn I ⟨pn, δ, Fr, R, hp, sm, h, _⟩ => h.elim⟩
end
end Z
set_option Elab.async false
set_option linter.all false
set_option maxRecDepth 100000
set_option autoImplicit false
namespace Z
open PySem PySem.Spec PyProof.Rows L2
section
variable {X : Cx} {Γ : Nat → Ct} {mu : List Nat} {a b c o ex : Expr} {ea eb ec eo : E} {pos p apos p2 : Pos} {t1 t2 : T} {x : Str} {i : Nat} {es : List Expr} {fs : Es} {bs : List (Nat × Nat)} {K : PySem.W.Frag}
/-- x[f(..)] = v -/
theorem S_setIxL {pos' : Pos} {e : E} (hN : X.N[i]? = some x) (hv : Vis X.env.scope x) (hd : (x == ("__debug__" : Str)) = false) (hcd : (x == ("__classdict__" : Str)) = false) (hk : EE X Γ mu a ea) (he : EE X Γ mu ex e) (hs : swapsWith ex (some (.Subscript (.Name x p) a pos')) pos.line X.env = pure false)
    (hw : swappedStores [.Subscript (.Name x p) a pos'] ex X.env = pure none) (h1 : (assignEach [.Subscript (.Name x p) a pos'] X.env).map (·.2) = [assign (.Subscript (.Name x p) a pos') X.env])
    (ha : ∀ v, assign (.Subscript (.Name x p) a pos') X.env v = (do
      let ov ← holding [v] (eval (.Name x p) X.env)
      let iv ← holding [v, ov] (eval a X.env)
      standAt pos'
      holding [v, ov, iv] (setItem ov iv v)
      release [v, ov, iv] [])) : ES X Γ mu (.Assign [.Subscript (.Name x p) a pos'] ex pos) (.setIxL i ea e) :=
  fun W _ => PSmono (ps_asg he (pg_sub (pe_var hN hv hd hcd) hk set_list ha) hs hw h1) fun Dn σ H ⟨pn, δ, Fr, R, hp, s, h, q, _⟩ => ⟨pn, δ, Fr, _, hp, s, h, fun x δ1 v H1 ⟨⟨d0, e0⟩, hr⟩ s1 => by
    obtain ⟨w, e1, _⟩ := s1.get e0
    refine ⟨w, e1, pn, δ1, .val v x :: Fr, _, hp, s1, hr, fun y δ2 u H2 ⟨xs, n, j, e2, ey, ej, hR⟩ s2 => ?_⟩
    subst ey
    have eu := (s2.seen (v := u) (d := .at (.int n)) List.mem_cons_self).at
    have s3 : Sim X.K pn σ δ2 (.val v x :: Fr) H2 := s2.drop
    obtain ⟨w', e3, s4⟩ := s3.out e2
    obtain rfl : w = w' := by rw [e1] at e3; exact Option.some.inj (Option.some.inj e3)
    obtain ⟨p, us, rfl, hlen, hf, hH, g1⟩ := Good.unpack (L := .val v x :: (Fr ++ envR σ (δ2.set i none))) rfl (Sim.front2 (A := [_, _]) s4)
    refine ⟨p, us, n, j, rfl, eu, hH, by rw [hlen]; exact ej, ?_⟩
    have hj : j < xs.length := by
      unfold ixN at ej
      split at ej
      · split at ej
        · cases ej; omega
        · cases ej
      · split at ej
        · cases ej; omega
        · cases ej
    obtain ⟨uj, e3⟩ : ∃ uj, us[j]? = some uj := ⟨us[j], List.getElem?_eq_getElem (by rw [hlen]; exact hj)⟩
    obtain ⟨dj, e4⟩ : ∃ dj, xs[j]? = some dj := ⟨xs[j], List.getElem?_eq_getElem hj⟩
    have g2 := g1.write (o' := ho .lst (us.set j v)) trivial
    have e5 : (us.set j v).eraseIdx j = us.eraseIdx j := eraseIdx_set_self
    have g3 : Good X.K (upd H2 p (ho .lst (us.set j v))) (.cell p (ho .lst (us.set j v)) :: (vals (us.set j v) (xs.set j x) ++ (Fr ++ envR σ (δ2.set i none)))) := by
      have q1 := vals_take (vs := us) (ds := xs) e3 e4
      have q2 := vals_put (vs := us.set j v) (ds := xs) (e := x) (List.getElem?_set_self (by rw [hlen]; exact hj)) e4
      rw [e5] at q2
      have q3 : (vals us xs ++ (.val v x :: (Fr ++ envR σ (δ2.set i none)))).Perm (.val uj dj :: (vals (us.set j v) (xs.set j x) ++ (Fr ++ envR σ (δ2.set i none)))) := by
        refine (q1.append_right _).trans (List.Perm.cons _ ?_)
        refine .trans ?_ (q2.symm.append_right _)
        exact List.perm_middle
      exact (g2.perm (List.Perm.cons _ q3)).sub (List.Sublist.cons_cons _ (List.sublist_cons_self _ _))
    have s5 := Sim.back (s4.ofc (Fr := Fr) (Good.pack (k := .lst) (vs := us.set j v) rfl (by simp [hlen]) trivial g3)) e1
    rw [List.set_set] at s5
    exact q _ σ _ hR s5⟩
/-! ### {k: v for ..} -/
variable {own ns : List Nat} {wi : WEs} {g : WG} {t : WT} {ke ve : WE}
theorem dc_loop {σ : L2.St} {pn : List (Nat × V)} {δ1 : Env} {L0 Fr : List Res} {J : L2.It} {ds : List D} {H1 : Hp} {A : Addr} {Q : VK} {R : List Key → List D → Env → Prop}
    (hp : Pn mu pn) (ho : ∀ i ∈ own, i ∉ mu) (hns : ∀ i ∈ ns, i ∈ own) (dw : DWalk K J ds L0) (hA : H1 A = none) (s1 : Sim K pn σ (wipeD δ1 own) (L0 ++ Fr) H1) (hr : forD (dcB own g t ke ve) ds (wipeD δ1 own) [] [] R)
    (q : ∀ ks acc δ2 H2, R ks acc δ2 → Sim K pn σ δ2 (.val (.ref A) (.nd (.dK ks) true acc) :: (L0 ++ Fr)) H2 → Q (.ref A) H2) :
    ∃ W : Nat → Nat → Hp → Prop, (∃ m, W 0 m (upd H1 A (.dK []))) ∧ ∀ i m H, W i m H →
      (J.stop i H ∧ Q (.ref A) H) ∨ (J.go i H ∧ ∃ Nx : Hp → Prop, (∀ H', Nx H' → ∃ m', m' < m ∧ W (i + 1) m' H') ∧ ∀ x H', J.yld i H x H' → liftG K mu ns g x (wipe σ own) H' fun σ2 H2 => wipe σ2 own = wipe σ own ∧ liftT K mu t σ2 H2 fun b H3 =>
        if b = true then liftE K mu ke σ2 H3 fun y H4 => liftE K mu ve σ2 H4 fun z H5 => ∃ kvs k, y = kV k ∧ H5 A = some (.dK kvs) ∧ kvs.length < sizeLine ∧ Nx (upd H5 A (.dK (putK kvs k z))) else Nx H3) := by
  have hpo := pn_own hp ho
  refine ⟨fun i m H => i + m = ds.length ∧ ∃ δ ks acc vs, Emp δ own ∧ vs.length = acc.length ∧ ks.length = vs.length ∧ ks.Nodup ∧ Sim K pn (wipe σ own) δ (L0 ++ (.cell A (.dK (ks.zip vs)) :: (vals vs acc ++ Fr))) H ∧ forD (dcB own g t ke ve) (ds.drop i) δ ks acc R, ?_, ?_⟩
  · refine ⟨ds.length, by omega, wipeD δ1 own, [], [], [], emp_wipe, rfl, rfl, .nil, ?_, hr⟩
    have s2 := s1.inw emp_wipe hpo
    have g2 := s2.front.alloc (o := .dK []) hA trivial
    have s3 : Sim K pn (wipe σ own) (wipeD δ1 own) (.cell A (.dK []) :: (L0 ++ Fr)) (upd H1 A (.dK [])) := s2.ofc g2
    exact s3.perm (List.perm_middle.symm)
  · intro i m H ⟨him, δ, ks, acc, vs, he, hl, hkl, hnd, s, h⟩
    by_cases hlt : i < ds.length
    · rw [List.drop_eq_getElem_cons hlt] at h
      have dwe := dw.toE (σ := wipe σ own)
      refine .inr ⟨dwe.goes _ _ _ _ i hlt s trivial, fun H' => ∃ δ ks acc vs, Emp δ own ∧ vs.length = acc.length ∧ ks.length = vs.length ∧ ks.Nodup ∧ Sim K pn (wipe σ own) δ (L0 ++ (.cell A (.dK (ks.zip vs)) :: (vals vs acc ++ Fr))) H' ∧ forD (dcB own g t ke ve) (ds.drop (i + 1)) δ ks acc R, fun H' hn => ⟨m - 1, by omega, by omega, hn⟩, fun x H' hy => ?_⟩
      have s2 := dwe.yields _ _ _ _ i x H' ds[i] (List.getElem?_eq_getElem hlt) s trivial hy
      refine ⟨pn, ds[i], δ, _, _, hp, s2, h, fun σ2 δ2 hr2 hq s3 => ?_⟩
      have hw : wipe σ2 own = wipe σ own := wipe_same (hq.1.trans (wipe_length _ _)) (fun i hi => hq.2 i (fun z => hi (hns i z)))
      refine ⟨hw, pn, δ2, _, _, hp, s3, hr2, fun c δ3 H3 hr3 s4 => ?_⟩
      cases c with
      | false =>
        simp only [Bool.false_eq_true, if_false] at hr3 ⊢
        refine ⟨wipeD δ3 own, ks, acc, vs, emp_wipe, hl, hkl, hnd, ?_, hr3⟩
        rw [← hw]
        exact s4.wipeD.inw emp_wipe hpo
      | true =>
        simp only [if_true] at hr3 ⊢
        refine ⟨pn, δ3, _, _, hp, s4, hr3, fun y δ4 v H4 hr4 s5 => ⟨pn, δ4, _, _, hp, s5, hr4, fun z δ5 w H5 ⟨hz, k, ek, hr5⟩ s6 => ?_⟩⟩
        have ev := Dkey_ok ek (s6.seen (v := v) (d := y) (List.mem_cons_of_mem _ List.mem_cons_self))
        subst ev
        have s7 : Sim K pn σ2 δ5 (.val w z :: (L0 ++ (.cell A (.dK (ks.zip vs)) :: (vals vs acc ++ Fr)))) H5 := s6.sub (List.Sublist.cons_cons _ (List.sublist_cons_self _ _))
        have s8 : Sim K pn σ2 δ5 (.cell A (.dK (ks.zip vs)) :: ((vals vs acc ++ [.val w z]) ++ (L0 ++ Fr))) H5 := s7.perm (by
          refine .trans (List.perm_middle (l₁ := (.val w z :: L0)) (a := Res.cell A (.dK (ks.zip vs))) (l₂ := vals vs acc ++ Fr)) (List.Perm.cons _ ?_)
          show (Res.val w z :: (L0 ++ (vals vs acc ++ Fr))).Perm _
          rw [List.append_assoc, List.singleton_append]
          refine .trans (List.Perm.cons _ ?_) (List.perm_middle.symm)
          rw [← List.append_assoc, ← List.append_assoc]
          exact List.perm_append_comm.append_right _)
        have hc : H5 A = some (.dK (ks.zip vs)) := Good.cellAt s8.front
        have hzl : (ks.zip vs).length < sizeLine := by rw [List.length_zip, hkl, hl, Nat.min_self]; exact hz
        have e1 := putK_zip (k := k) (v := w) hkl hnd
        have hf := putKs_fst (ks := ks) (vs := vs) (ds := acc) (k := k) (v := w) (d := z) hkl hl
        have hkl' : ks.length = acc.length := hkl.trans hl
        have hl1 := putKs_len (ks := ks) (vs := vs) (k := k) (v := w) hkl
        have hl2 := putKs_len (ks := ks) (vs := acc) (k := k) (v := z) hkl'
        refine ⟨ks.zip vs, k, rfl, hc, hzl, wipeD δ5 own, (putKs ks acc k z).1, (putKs ks acc k z).2, (putKs ks vs k w).2, emp_wipe, ?_, ?_, putKs_nodup hkl' hnd, ?_, hr5⟩
        · rw [← hl1, hf, hl2]
        · rw [← hf, hl1]
        · rw [← hw]
          refine Sim.inw (Sim.wipeD ?_) emp_wipe hpo
          have g7 := s8.front.write (o' := .dK (putK (ks.zip vs) k w)) trivial
          have s9 : Sim K pn σ2 δ5 (.cell A (.dK (putK (ks.zip vs) k w)) :: ((vals vs acc ++ [.val w z]) ++ (L0 ++ Fr))) (upd H5 A (.dK (putK (ks.zip vs) k w))) := s8.ofc g7
          obtain ⟨A', pm⟩ := putKs_vals (ks := ks) (vs := vs) (ds := acc) (k := k) (v := w) (d := z) hkl hl
          have s10 := s9.perm (List.Perm.cons _ (pm.append_right _))
          have s11 : Sim K pn σ2 δ5 (.cell A (.dK (putK (ks.zip vs) k w)) :: (vals (putKs ks vs k w).2 (putKs ks acc k z).2 ++ (L0 ++ Fr))) _ := s10.sub (by
            refine List.Sublist.cons_cons _ ?_
            rw [List.append_assoc]
            exact List.sublist_append_right _ _)
          rw [← hf, ← e1]
          refine s11.perm ?_
          refine .trans (List.Perm.cons _ ?_) (List.perm_middle (l₁ := L0)).symm
          rw [← List.append_assoc, ← List.append_assoc]
          exact List.perm_append_comm.append_right _
    · have e0 : i = ds.length := by omega
      subst e0
      rw [List.drop_length] at h
      refine .inl ⟨(dw.toE (σ := wipe σ own)).stops _ _ _ _ s trivial, q ks acc δ H h ?_⟩
      have s2 := s.outw he
      have s3 : Sim K pn σ δ (.cell A (.dK (ks.zip vs)) :: (vals vs acc ++ (L0 ++ Fr))) H := s2.perm (by
        refine .trans List.perm_middle (List.Perm.cons _ ?_)
        rw [← List.append_assoc, ← List.append_assoc]
        exact List.perm_append_comm.append_right _)
      exact s3.ofc (Good.pack (k := .dK ks) rfl hl ⟨hkl, hnd⟩ (by have z := s3.front; simp only [List.append_assoc, List.cons_append] at z ⊢; exact z))
def dcompW (own : List Nat) (wi : WEs) (g : WG) (t : WT) (ke ve : WE) : WE := fun δ Q => wi δ fun ds δ1 => forD (dcB own g t ke ve) ds (wipeD δ1 own) [] [] fun ks vs δ2 => Q (.nd (.dK ks) true vs) (unwipe δ1 δ2 own)
theorem dcomp_ok (ho : ∀ i ∈ own, i ∉ mu) (hns : ∀ i ∈ ns, i ∈ own) {σ : L2.St} {H : Hp} {Q : VK} (h : liftE K mu (dcompW own wi g t ke ve) σ H Q) : tDc (liftI K mu wi) (liftG K mu ns g) (liftT K mu t) (liftE K mu ke) (liftE K mu ve) own σ H Q := by
  obtain ⟨pn, δ, Fr, R, hp, s, h, q⟩ := h
  refine ⟨pn, δ, Fr, _, hp, s, h, fun ds δ1 J L0 H1 hr dw s1 A hA => ?_⟩
  obtain ⟨Ro, s2, back⟩ := s1.aside (own := own)
  have s3 : Sim K pn σ (wipeD δ1 own) (L0 ++ (Ro ++ Fr)) H1 := s2.perm (by
    rw [← List.append_assoc, ← List.append_assoc]
    exact List.perm_append_comm.append_right _)
  exact dc_loop (R := fun ks acc δ2 => R (.nd (.dK ks) true acc) (unwipe δ1 δ2 own)) hp ho hns dw hA s3 hr
    fun ks acc δ2 H2 hr2 s4 => q _ _ _ _ hr2 (back δ2 _ H2 (s4.under.perm List.perm_middle.symm))
end
section
variable {X : Cx} {N : List Str} {sc : Scope} {BL : List Str} {FT : List FnI} {av : List Nat} {Γ : Nat → Ct} {mu : List Nat} {a b c o ex : Expr} {ea eb ec eo : E} {pos p apos p2 : Pos} {t1 t2 : T} {x : Str} {i : Nat} {es : List Expr} {fs : Es} {bs : List (Nat × Nat)}
theorem V_dcomp {it : It} {g : G} {t : OT} {ke ve : E} {ns : List Nat} {kx vx tg iter : Expr} {ifs : List Expr} {scope : Scope} (C : CxP X N sc BL FT av Γ) (own : List (Str × Nat)) (hb : blkD N sc scope mu own ns = true) (hk : scope.kind = .function) (hi : EI X Γ mu tg iter it) (hs : noLc iter = true)
    (hg : ∀ X', CxP X' N (relS scope sc) BL FT av Γ → EG X' mu ns tg g) (ht : ∀ X', CxP X' N (relS scope sc) BL FT av Γ → PTs X' ifs (liftT X'.K mu (wpOT Γ t))) (hke : ∀ X', CxP X' N (relS scope sc) BL FT av Γ → EE X' Γ mu kx ke) (hve : ∀ X', CxP X' N (relS scope sc) BL FT av Γ → EE X' Γ mu vx ve) :
    EE X Γ mu (.DictComp kx vx [⟨tg, iter, ifs, 0⟩] scope pos) (.dcomp (own.map (·.2)) it g t ke ve) :=
  PEmono (pe_dc C.calm C.ndX hi (by rw [C.nN, C.sC]; exact blkOk_by (blkD_ok hb).1) (fun s H c cl fp => hg _ (C.blk hk s H c cl fp)) (fun s H c cl fp => ht _ (C.blk hk s H c cl fp)) (fun s H c cl fp => hke _ (C.blk hk s H c cl fp)) (fun s H c cl fp => hve _ (C.blk hk s H c cl fp)) (noLc_fold hs)) fun σ H Q h => dcomp_ok (blkD_ok hb).2.1 (blkD_ok hb).2.2 h
theorem VP_ixd (C : CxP X N sc BL FT av Γ) (i : Nat) (h : nmC N sc i x = true) (hs : noLc b = true) (hb : EP X mu b eb) : EP X mu (.Subscript (.Name x p) b pos) (.ixd i eb) := P_ixd (C.nm h).ix (C.nm h).vis (C.nm h).db (C.nm h).cd (by have := C.hu; omega) hs hb
theorem V_ixL (C : CxP X N sc BL FT av Γ) (i : Nat) (h : nmC N sc i x = true) (hs : noLc b = true) (hb : EE X Γ mu b eb) : EE X Γ mu (.Subscript (.Name x p) b pos) (.ixL i eb) := E_ixL (C.nm h).ix (C.nm h).vis (C.nm h).db (C.nm h).cd hs hb
theorem V_setIxL {pos' : Pos} {e : E} (C : CxP X N sc BL FT av Γ) (i : Nat) (h : nmC N sc i x = true) (hk : EE X Γ mu a ea) (he : EE X Γ mu ex e) (hs : noLc ex = true)
    (hw : swappedStores [.Subscript (.Name x p) a pos'] ex X.env = pure none) (h1 : (assignEach [.Subscript (.Name x p) a pos'] X.env).map (·.2) = [assign (.Subscript (.Name x p) a pos') X.env])
    (ha : ∀ v, assign (.Subscript (.Name x p) a pos') X.env v = (do
      let ov ← holding [v] (eval (.Name x p) X.env)
      let iv ← holding [v, ov] (eval a X.env)
      standAt pos'
      holding [v, ov, iv] (setItem ov iv v)
      release [v, ov, iv] [])) : ES X Γ mu (.Assign [.Subscript (.Name x p) a pos'] ex pos) (.setIxL i ea e) := S_setIxL (C.nm h).ix (C.nm h).vis (C.nm h).db (C.nm h).cd hk he (noLc_swap hs) hw h1 ha
theorem V_extend (C : CxP X N sc BL FT av Γ) (i : Nat) (h : nmC N sc i x = true) (hf : Few X [ex] pos) (hl : (apos.endLine == pos.line) = true) (hs : [ex].all noStar = true) (ha : EA X Γ mu bs [ex] fs) :
    EE X Γ mu (.Call (.Attribute (.Name x p) "extend" apos) [ex] [] pos) (.mth .extend i fs) :=
  e_mth (Γ := Γ) PySem.F.plainAttrs_list PySem.F.slot_list_extend PySem.F.type_list_extend mt_extend does_extend (C.nm h).ix (C.nm h).vis (C.nm h).db (C.nm h).cd ha hf.few hl hs
end
end Z
set_option Elab.async false
set_option linter.all false
set_option maxRecDepth 100000
set_option autoImplicit false
namespace Z
open PySem PySem.Spec PyProof.Rows L2
theorem swd_true {kx vx : Expr} {gs : List Comprehension} {scope : Scope} {pos py : Pos} {y : Str} {l : Nat} {env : PySem.Env} (hk : env.scope.kind = .function) (hy : env.scope.names.lookup y = some .local) (hl : (py.line == pos.line) = true)
    (ha : (scope.names.any fun (n, k) => n == y && (k == .local || k == .cell)) = false) : swapsWith (.DictComp kx vx gs scope pos) (some (.Name y py)) l env = pure true := by
  have ky : env.kindOf y = some .local := hy
  have hb : env.blockKind = .function := by unfold Env.blockKind; rw [hk]; rfl
  unfold swapsWith
  simp only [hb, ky, ha, Expr.pos, hl]
  rfl
section
variable {X : Cx}
theorem ps_setDc {i : Nat} {y : Str} {py : Pos} {kx vx tg iter : Expr} {ifs : List Expr} {scope : Scope} {own : List (Str × Nat)} {pos spos : Pos} {wi : TI} {g : TG} {tt : TT} {tk tv : TE} (hc : X.calm = true) (hN : X.N.Nodup) (hy : X.N[i]? = some y) (hyl : X.env.scope.names.lookup y = some .local)
    (hsw : swapsWith (.DictComp kx vx [⟨tg, iter, ifs, 0⟩] scope pos) (some (.Name y py)) spos.line X.env = pure true) (hi : PI X tg iter wi) (ok : BlkOk X.N X.env.scope scope own)
    (hg : ∀ (s : Shared) (H : Hp) (C : Addr) (cl : List (Str × Addr)) (fp : List Addr), PG (X.blk s H scope (compEnvC scope cl C X.env) fp) tg g) (ht : ∀ (s : Shared) (H : Hp) (C : Addr) (cl : List (Str × Addr)) (fp : List Addr), PTs (X.blk s H scope (compEnvC scope cl C X.env) fp) ifs tt)
    (hk : ∀ (s : Shared) (H : Hp) (C : Addr) (cl : List (Str × Addr)) (fp : List Addr), PE (X.blk s H scope (compEnvC scope cl C X.env) fp) kx tk) (he : ∀ (s : Shared) (H : Hp) (C : Addr) (cl : List (Str × Addr)) (fp : List Addr), PE (X.blk s H scope (compEnvC scope cl C X.env) fp) vx tv) (hs : ∀ x, foldedSetIterable iter X.env x = pure x) :
    PS X (.Assign [.Name y py] (.DictComp kx vx [⟨tg, iter, ifs, 0⟩] scope pos) spos) (tAsg (tDc wi g tt tk tv (own.map (·.2))) (gName i)) := by
  refine ⟨fun pins s σ H D I h => ?_⟩
  rw [exec_Assign_Name_used _ _ _ _ hsw]
  refine wpAny_bind (wpAny_standAt (wpAny_bind ?_))
  show wpAny _ X.A (do let _ ← comprehension (.DictComp kx vx [⟨tg, iter, ifs, 0⟩] scope pos) scope X.env (firstIterPos [⟨tg, iter, ifs, 0⟩] pos) newDict false (eval iter X.env) (some (assign (.Name y py) X.env))) _ _ s
  have h : tDc wi g tt tk tv (own.map (·.2)) σ H (fun x H1 => gName i x σ H1 D.nx) := h
  refine wpAny_bind (thn (dc_core (Qf := fun _ s' => SP X pins D .next s') hc hN I hi ok hg ht hk he hs h fun L C s' m H' I' q hn f => ?_) fun _ s' hq => wpAny_pure (wpAny_pure hq))
  show wpAny _ _ (assign (.Name y py) X.env (.ref L)) _ _ _
  refine wpAny_assign_Name (store_ok2 (v := V.ref L) I' hN hy (.inl hyl) rfl (fun s2 I2 ⟨a, sb, ha⟩ => ?_) (.inr hyl))
  obtain ⟨f0, f1, f2, f3, f4, f5⟩ := f
  have haC : C ≠ a := by
    rcases ha with z | z
    · rw [z]; exact f1
    · exact fun e => f4 y a z e.symm
  refine ⟨m, hn.sameBut sb haC, fun h3 sb3 => ?_⟩
  exact ⟨_, H', I2.turned (t' := s2.toks) (fun b o hb e => (sb3.2 b hb).trans e) f0 f1 f3 f4 f5, q⟩
end
theorem par_none2 {env : PySem.Env} {x y : Str} {px py pt pt2 : Pos} {kt k2 : Nat} {a b : Expr} (h : ¬ env.kindOf x = some .local ∨ ¬ env.kindOf y = some .local) : swappedStores [.Tuple [.Name x px, .Name y py] kt pt] (.Tuple [a, b] k2 pt2) env = pure none := by
  unfold swappedStores
  by_cases hb : env.blockKind = .function
  · simp [hb]
    intro _ _ hlen
    exfalso
    rcases h with h | h
    · simp [h] at hlen
      have h2 : 2 ≤ [Expr.Name y py].length := by rw [← hlen]; exact List.length_filterMap_le _ _
      simp at h2
    · simp [h, List.filterMap_cons] at hlen
      split at hlen <;> simp at hlen
  · simp [hb]
section
variable {X : Cx} {N : List Str} {sc : Scope} {BL : List Str} {FT : List FnI} {av : List Nat} {Γ : Nat → Ct} {mu : List Nat} {a b c o ex : Expr} {ea eb ec eo : E} {pos p apos p2 : Pos} {t1 t2 : T} {x : Str} {i : Nat} {es : List Expr} {fs : Es} {bs : List (Nat × Nat)}
theorem V_setDcomp {it : It} {g : G} {t : OT} {ke ve : E} {ns : List Nat} {kx vx tg iter : Expr} {ifs : List Expr} {scope : Scope} {y : Str} {py spos : Pos} (C : CxP X N sc BL FT av Γ) (i : Nat) (own : List (Str × Nat)) (h : stC N sc mu i y = true) (hyl : locC sc y = true) (hb : blkD N sc scope mu own ns = true) (hk : scope.kind = .function)
    (hl : (py.line == pos.line) = true) (hany : (scope.names.any fun (n, k) => n == y && (k == .local || k == .cell)) = false) (hi : EI X Γ mu tg iter it) (hs : noLc iter = true)
    (hg : ∀ X', CxP X' N (relS scope sc) BL FT av Γ → EG X' mu ns tg g) (ht : ∀ X', CxP X' N (relS scope sc) BL FT av Γ → PTs X' ifs (liftT X'.K mu (wpOT Γ t))) (hke : ∀ X', CxP X' N (relS scope sc) BL FT av Γ → EE X' Γ mu kx ke) (hve : ∀ X', CxP X' N (relS scope sc) BL FT av Γ → EE X' Γ mu vx ve) :
    ES X Γ mu (.Assign [.Name y py] (.DictComp kx vx [⟨tg, iter, ifs, 0⟩] scope pos) spos) (.set i (.dcomp (own.map (·.2)) it g t ke ve)) :=
  fun W _ => PSmono (ps_setDc (i := i) C.calm C.ndX (C.st h).1 (C.loc hyl) (swd_true (by rw [C.sC]; exact C.kind) (C.loc hyl) hl hany) hi (by rw [C.nN, C.sC]; exact blkOk_by (blkD_ok hb).1) (fun s H c cl fp => hg _ (C.blk hk s H c cl fp)) (fun s H c cl fp => ht _ (C.blk hk s H c cl fp)) (fun s H c cl fp => hke _ (C.blk hk s H c cl fp)) (fun s H c cl fp => hve _ (C.blk hk s H c cl fp)) (noLc_fold hs)) fun Dn σ H ⟨pn, δ, Fr, R, hp, s, h', q, _⟩ =>
    dcomp_ok (mu := mu) (wi := wpIt Γ it) (g := wpG g) (t := wpOT Γ t) (ke := wpE Γ ke) (ve := wpE Γ ve) (Q := fun v H' => Dn.nx (σ.set i (some v)) H') (blkD_ok hb).2.1 (blkD_ok hb).2.2 ⟨pn, δ, Fr, fun d δ1 => R (.nx (δ1.set i (some d))), hp, s, h', fun d δ' v H' hr s' => q _ _ _ hr (s'.put' (pn_ne hp (C.st h).2.2))⟩
def noloc (sc : Scope) (x : Str) : Bool := !(sc.names.lookup x == some .local)
theorem V_asgP {x y : Str} {px py pt : Pos} {kt k2 : Nat} {pt2 : Pos} {g : G} {ns : List Nat} (C : CxP X N sc BL FT av Γ) (he : EE X Γ mu (.Tuple [a, b] k2 pt2) ea) (hg : EG X mu ns (.Tuple [.Name x px, .Name y py] kt pt) g) (hn : (noloc sc x || noloc sc y) = true) (h1 : (assignEach [.Tuple [.Name x px, .Name y py] kt pt] X.env).map (·.2) = [assign (.Tuple [.Name x px, .Name y py] kt pt) X.env]) :
    ES X Γ mu (.Assign [.Tuple [.Name x px, .Name y py] kt pt] (.Tuple [a, b] k2 pt2) pos) (.asg g ea) :=
  S_asg he hg rfl (par_none2 (by
    simp only [noloc, Bool.or_eq_true, Bool.not_eq_true', beq_eq_false_iff_ne] at hn
    unfold Env.kindOf
    rw [C.sC]
    exact hn)) h1
end
/-! ## by value: more clauses, more loops -/
@[simp] theorem q_int_b {b : Bool} {k : D → Prop} : evInt (.at (.bl b)) k = k (.at (.int (if b = true then 1 else 0))) := rfl
@[simp] theorem q_b_max {i j : Int} {k : D → Prop} : ev2 .max (.at (.int i)) (.at (.int j)) k = k (.at (.int (if j > i then j else i))) := rfl
@[simp] theorem q_b_min {i j : Int} {k : D → Prop} : ev2 .min (.at (.int i)) (.at (.int j)) k = k (.at (.int (if j < i then j else i))) := rfl
@[simp] theorem q_b_in : ev2 .isin = evIn false := rfl
@[simp] theorem q_b_notin : ev2 .notin = evIn true := rfl
@[simp] theorem q_b_inD : ev2 .isinD = evInD false := rfl
@[simp] theorem q_b_notinD : ev2 .notinD = evInD true := rfl
@[simp] theorem q_b_index : ev2 .index = evIndex := rfl
@[simp] theorem q_b_cnt : ev2 .cnt = evCnt := rfl
@[simp] theorem q_in_t {v : V} {o : Bool} {ds : List D} {k : D → Prop} : evIn false (.at v) (.nd .tup o ds) k = ∃ vs, atsOf ds = some vs ∧ flatV v = true ∧ vs.all flatV = true ∧ k (.at (.bl (inV v vs))) := rfl
@[simp] theorem q_in_l {v : V} {o : Bool} {ds : List D} {k : D → Prop} : evIn false (.at v) (.nd .lst o ds) k = ∃ vs, atsOf ds = some vs ∧ flatV v = true ∧ vs.all flatV = true ∧ k (.at (.bl (inV v vs))) := rfl
@[simp] theorem q_nin_t {v : V} {o : Bool} {ds : List D} {k : D → Prop} : evIn true (.at v) (.nd .tup o ds) k = ∃ vs, atsOf ds = some vs ∧ flatV v = true ∧ vs.all flatV = true ∧ k (.at (.bl (!inV v vs))) := rfl
@[simp] theorem q_nin_l {v : V} {o : Bool} {ds : List D} {k : D → Prop} : evIn true (.at v) (.nd .lst o ds) k = ∃ vs, atsOf ds = some vs ∧ flatV v = true ∧ vs.all flatV = true ∧ k (.at (.bl (!inV v vs))) := rfl
@[simp] theorem q_inD {x : D} {o : Bool} {ds : List D} {k : D → Prop} : evInD false x (.nd .lst o ds) k = ∃ d es, pyd x = some d ∧ pydL ds = some es ∧ SeqAt.shaped d = true ∧ SeqAt.shaped (.list es) = true ∧ k (.at (.bl (es.any fun z => PyData.eqv z d))) := rfl
@[simp] theorem q_ninD {x : D} {o : Bool} {ds : List D} {k : D → Prop} : evInD true x (.nd .lst o ds) k = ∃ d es, pyd x = some d ∧ pydL ds = some es ∧ SeqAt.shaped d = true ∧ SeqAt.shaped (.list es) = true ∧ k (.at (.bl (!es.any fun z => PyData.eqv z d))) := rfl
@[simp] theorem q_index {x : D} {o : Bool} {ds : List D} {k : D → Prop} : evIndex (.nd .lst o ds) x k = ∃ d es j z, pyd x = some d ∧ pydL ds = some es ∧ SeqAt.shaped (.list es) = true ∧ SeqAt.shaped d = true ∧ es[j]? = some z ∧ PyData.eqv z d = true ∧ (∀ (m : Nat) (z' : PyData), m < j → es[m]? = some z' → PyData.eqv z' d = false) ∧ k (.at (.int (j : Nat))) := rfl
@[simp] theorem q_cnt {x : Str} {o : Bool} {ds : List D} {k : D → Prop} : evCnt (.nd .lst o ds) (.at (.str x)) k = ∃ ys, strsOf ds = some ys ∧ k (.at (.int ((ys.countP fun y => decide (y = x)) : Nat))) := rfl
@[simp] theorem q_ld {ks : List Key} {o : Bool} {ds : List D} {k : D → Prop} : evA1 .listD (.nd (.dK ks) o ds) k = k (.nd .lst true (ks.map keyD)) := rfl
@[simp] theorem q_dl {o : Bool} {ds : List D} {k : D → Prop} : evA1 .dictL (.nd .lst o ds) k = (frozL ds = true ∧ ∃ ks vs, kvsK ds = some (ks, vs) ∧ ks.Nodup ∧ k (.nd (.dK ks) true vs)) := rfl
@[simp] theorem q_m_ext {ds es : List D} {k : List D → D → Prop} : evM .extend ds [.nd .lst true es] k = (ds.length + es.length ≤ sizeLine ∧ k (ds ++ es) (.at .non)) := rfl
@[simp] theorem q_rep {xs : List D} {n : Int} {δ : Z.Env} {Q : D → Z.Env → Prop} : repW (.nd .lst true xs) (.at (.int n)) δ Q = (frozL xs = true ∧ -(2 ^ 63) ≤ n ∧ n < 2 ^ 63 ∧ xs.length * n.toNat ≤ sizeLine ∧ Q (.nd .lst true (List.replicate n.toNat xs).flatten) δ) := rfl
@[simp] theorem q_rng2 {i j : Int} {k : List D → Prop} : rngW2 [.at (.int i), .at (.int j)] k = ((-(2 ^ 62) ≤ i ∧ i < 2 ^ 62 ∧ -(2 ^ 62) ≤ j ∧ j < 2 ^ 62) ∧ k ((List.range (j - i).toNat).map fun (t : Nat) => D.at (.int (i + (t : Int))))) := rfl
@[simp] theorem q_rng3 {i j c : Int} {k : List D → Prop} : rngW3 [.at (.int i), .at (.int j), .at (.int c)] k = ∃ n, RgC i j c n ∧ k ((List.range n).map fun (t : Nat) => D.at (.int (i + (t : Int) * c))) := rfl
@[simp] theorem q_ixd_t {o : Bool} {ds : List D} {y : D} {k : D → Prop} : evIxd (.nd .tup o ds) y k = evIdx (.nd .tup o ds) y k := rfl
@[simp] theorem q_ixd_l {o : Bool} {ds : List D} {y : D} {k : D → Prop} : evIxd (.nd .lst o ds) y k = evIdx (.nd .lst o ds) y k := rfl
@[simp] theorem q_ixd_d {ks : List Key} {o : Bool} {ds : List D} {y : D} {k : D → Prop} : evIxd (.nd (.dK ks) o ds) y k = dget (.nd (.dK ks) o ds) y fun o => ∃ r, o = some r ∧ k r := rfl
@[simp] theorem q_dcB {own : List Nat} {g : D → Z.Env → (Z.Env → Prop) → Prop} {t : Z.Env → (Bool → Z.Env → Prop) → Prop} {ke ve : Z.Env → (D → Z.Env → Prop) → Prop} {d : D} {δ : Z.Env} {k : Option (D × D) → Z.Env → Prop} : dcB own g t ke ve d δ k = g d δ fun δ1 => t δ1 fun c δ2 => if c = true then ke δ2 fun x δ3 => ve δ3 fun y δ4 => k (some (x, y)) (wipeD δ4 own) else k none (wipeD δ2 own) := rfl
/-- items that are images g a: each turn gives the key and the value of f a -/
theorem forD_mapL {α : Type} {body : D → Z.Env → (Option (D × D) → Z.Env → Prop) → Prop} {δ0 : Z.Env} (g : α → D) (fk : α → D) (ky : α → Key) (fv : α → D) (hky : ∀ a, Dkey (fk a) = some (ky a)) : ∀ (l : List α) (ks : List Key) (vs : List D) (Q : List Key → List D → Z.Env → Prop), (∀ a ∈ l, ∀ k : Option (D × D) → Z.Env → Prop, k (some (fk a, fv a)) δ0 → body (g a) δ0 k) → vs.length + l.length ≤ sizeLine →
    ks.length = vs.length → Q (l.foldl (fun p a => putKs p.1 p.2 (ky a) (fv a)) (ks, vs)).1 (l.foldl (fun p a => putKs p.1 p.2 (ky a) (fv a)) (ks, vs)).2 δ0 → forD body (l.map g) δ0 ks vs Q
  | [], ks, vs, Q, _, _, _, h => h
  | a :: l, ks, vs, Q, hb, hl, hk, h => by
    refine hb a List.mem_cons_self _ ?_
    simp only [List.length_cons] at hl
    refine ⟨by omega, ky a, hky a, ?_⟩
    have hlen : (putKs ks vs (ky a) (fv a)).2.length ≤ vs.length + 1 := by
      have key : ∀ (ks : List Key) (vs : List D), (putKs ks vs (ky a) (fv a)).2.length ≤ vs.length + 1 := by
        intro ks
        induction ks with
        | nil => intro vs; cases vs <;> simp [putKs]
        | cons k ks ih =>
          intro vs
          cases vs with
          | nil => simp [putKs]
          | cons v vs =>
            unfold putKs
            split
            · simp
            · have := ih vs
              simp only [List.length_cons]
              omega
      exact key ks vs
    exact forD_mapL g fk ky fv hky l _ _ Q (fun a ha => hb a (List.mem_cons_of_mem _ ha)) (by omega) (putKs_len hk) h
end Z
set_option Elab.async false
set_option linter.all false
set_option maxRecDepth 100000
set_option autoImplicit false
namespace Z
open PySem PySem.Spec PyProof.Rows L2
/-! ## a < b < c; and, or as values; d.get(k) of a dict of the written part, of a displayed one -/
section
variable {X : Cx} {Γ : Nat → Ct} {mu : List Nat} {a b c o ex : Expr} {ea eb ec eo : E} {pos p apos cpos : Pos} {x : Str} {i : Nat}
theorem P_one {op : BoolOp} (ha : EP X mu a ea) : EP X mu (.BoolOp op [a] pos) ea := pe_one ha
theorem E_one {op : BoolOp} (ha : EE X Γ mu a ea) : EE X Γ mu (.BoolOp op [a] pos) ea := pe_one ha
def chW (o1 o2 : U2) (a b c : E) : Env → (D → Prop) → Prop := fun δ k => wpP a δ fun x => wpP b δ fun y => ev2 o1 x y fun r => ∃ t, r = .at (.bl t) ∧ if t = true then wpP c δ fun z => ev2 o2 y z k else k (.at (.bl false))
theorem P_chn {op op' : CmpOp} {r r' : R2} {o1 o2 : U2} (ho : OpR X (compareOp op) r) (ho' : OpR X (compareOp op') r') (d1 : Does2 X r (ev2 o1)) (d2 : Does2 X r' (ev2 o2)) (hm : lastMarks [op, op'] [b, c] = false) (ha : EP X mu a ea) (hb : EP X mu b eb) (hc : EP X mu c ec) :
    EP X mu (.Compare a [op, op'] [b, c] pos) (.xp (chW o1 o2 ea eb ec)) :=
  PEmono (pe_chain ho ho' ha hb hc (hm := hm)) fun σ H Q ⟨pn, δ, Fr, R, hp, s, h, q⟩ => ⟨pn, δ, Fr, _, hp, s, h, fun x v hx i => ⟨pn, δ, Fr, _, hp, s, hx, fun y u hy i2 => d1 _ H v u x y _ _ i i2 hy fun w dr ⟨t, e, hr⟩ i3 => by
    subst e
    refine ⟨t, i3.at, ?_⟩
    cases t with
    | true => exact ⟨pn, δ, Fr, _, hp, s, hr, fun z w' hz i4 => d2 _ H u w' y z _ _ i2 i4 hz fun w2 dr2 hr2 i5 => q dr2 w2 hr2 i5⟩
    | false => exact q _ _ hr i3.mkat⟩⟩
theorem PT_chn {op op' : CmpOp} {r r' : R2} {o1 o2 : U2} (ho : OpR X (compareOp op) r) (ho' : OpR X (compareOp op') r') (d1 : Does2 X r (ev2 o1)) (d2 : Does2 X r' (ev2 o2)) (hB : EvB (ev2 o2)) (hm : lastMarks [op, op'] [b, c] = false) (ha : EP X mu a ea) (hb : EP X mu b eb) (hc : EP X mu c ec) :
    EPT X mu (.Compare a [op, op'] [b, c] pos) (.v (.xp (chW o1 o2 ea eb ec))) :=
  PTmono (pt_chain ho ho' ha hb hc (hm := hm)) fun σ H Q ⟨pn, δ, Fr, R, hp, s, h, q⟩ => ⟨pn, δ, Fr, _, hp, s, h, fun x v hx i => ⟨pn, δ, Fr, _, hp, s, hx, fun y u hy i2 => d1 _ H v u x y _ _ i i2 hy fun w dr ⟨t, e, hr⟩ i3 => by
    subst e
    refine ⟨t, i3.at, ?_⟩
    cases t with
    | true => exact ⟨pn, δ, Fr, _, hp, s, hr, fun z w' hz i4 => d2 _ H u w' y z _ _ i2 i4 (hB _ _ _ hz) fun w2 dr2 ⟨t2, e2, hr2⟩ i5 => by subst e2; exact ⟨t2, i5.at, q t2 hr2⟩⟩
    | false => exact ⟨false, rfl, q false hr⟩⟩⟩
theorem P_lele (hm : lastMarks [.LtE, .LtE] [b, c] = false) (ha : EP X mu a ea) (hb : EP X mu b eb) (hc : EP X mu c ec) : EP X mu (.Compare a [.LtE, .LtE] [b, c] pos) (.xp (chW .le .le ea eb ec)) := P_chn op_le op_le does_iop0 does_iop0 hm ha hb hc
theorem PT_lele (hm : lastMarks [.LtE, .LtE] [b, c] = false) (ha : EP X mu a ea) (hb : EP X mu b eb) (hc : EP X mu c ec) : EPT X mu (.Compare a [.LtE, .LtE] [b, c] pos) (.v (.xp (chW .le .le ea eb ec))) := PT_chn op_le op_le does_iop0 does_iop0 evB_iop0 hm ha hb hc
theorem P_lelt (hm : lastMarks [.LtE, .Lt] [b, c] = false) (ha : EP X mu a ea) (hb : EP X mu b eb) (hc : EP X mu c ec) : EP X mu (.Compare a [.LtE, .Lt] [b, c] pos) (.xp (chW .le .lt ea eb ec)) := P_chn op_le op_lt does_iop0 does_iop0 hm ha hb hc
theorem PT_lelt (hm : lastMarks [.LtE, .Lt] [b, c] = false) (ha : EP X mu a ea) (hb : EP X mu b eb) (hc : EP X mu c ec) : EPT X mu (.Compare a [.LtE, .Lt] [b, c] pos) (.v (.xp (chW .le .lt ea eb ec))) := PT_chn op_le op_lt does_iop0 does_iop0 evB_iop0 hm ha hb hc
/-! ### a module's number -/
theorem P_glob {v : V} {u : Value} (hg : Gl X x) (hm : X.mg x = some u) (r : RelV v u) (hd : (x == ("__debug__" : Str)) = false) : EP X mu (.Name x pos) (.c v) := p_c (pe_glob hg hm r hd)
/-! ### d.get(k), d of the written part: texts to ints -/
def lkS : List (Str × Int) → Str → Option Int
  | [], _ => none
  | (k, v) :: r, z => if k = z then some v else lkS r z
def kgW (tab : List (Str × Int)) (ek : E) : Env → (D → Prop) → Prop := fun δ k => wpP ek δ fun y => ∃ z, y = .at (.str z) ∧ k (match lkS tab z with | some n => .at (.int n) | none => .at .non)
/-- a dict of the written part with text keys and int values -/
structure KTab (K : PySem.W.Frag) (w : World) (d : Addr) (tab : List (Str × Int)) : Prop where
  ex : ∃ es n, KDict K w d es n
  get : ∀ z, ∃ r, PySem.W.nsIn K d z = some r ∧ match lkS tab z with | some n => ∃ u, r = some u ∧ RelV (.int n) u | none => r = none
theorem pe_kget {tab : List (Str × Int)} {d : Addr} {te : TE} (hg : Gl X x) (hm : X.mg x = some (.ref d)) (D : KTab X.K X.w d tab) (he : PE X a te) (m : M1 X (.Name x p) "get" apos a cpos) (hd : (x == ("__debug__" : Str)) = false) :
    PE X (.Call (.Attribute (.Name x p) "get" apos) [a] [] cpos) (fun σ H Q => te σ H fun y H1 => ∃ z, y = .str z ∧ Q (match lkS tab z with | some n => .int n | none => .non) H1) := by
  obtain ⟨es, n, KD⟩ := D.ex
  refine ⟨fun pins s σ H Q I h => ?_⟩
  refine wpAny_Call_method m.base m.few m.line PySem.F.plainAttrs_dict PySem.F.slot_dict_get PySem.F.type_dict_get (ld_glob I hg hm ?_ hd)
  have hT : s.TypeIs (.ref d) "dict" := (PySem.W.mapOf_K (prog := X.prog) (w := X.w) I.kIn KD.at_ KD.lit).typeIs
  refine ⟨hT, fun b e => ⟨_, I.kIn _ _ (by cases e; exact KD.at_), rfl⟩, ?_⟩
  rw [m.trees]
  refine Calls.callWith_builtin rfl (Calls.evalArgs_plain (Calls.spliced_cons (thn (he.run pins s σ H _ I h) fun iv s2 ⟨y, H2, I2, ry, z, ey, q2⟩ => Calls.spliced_nil ?_)))
  subst ey
  obtain ⟨t, rfl⟩ := ry
  obtain ⟨r, er, hr⟩ := D.get z
  have hM := PySem.W.mapOf_K (prog := X.prog) (w := X.w) I2.kIn KD.at_ KD.lit
  refine call_meetsIn PySem.F.slot_dict_get hM.typeIs PySem.F.entry_dict_get (PySem.F.args_dict_get_2 _ _) (meets_dict_get (strKind X.prog X.w) d (strKind_is X.prog X.w z t) KD.low) ⟨_, hM, ?_⟩
  rw [PySem.W.find_K KD.at_ er]
  cases hl : lkS tab z with
  | some n =>
    rw [hl] at hr q2
    obtain ⟨u, rfl, ru⟩ := hr
    exact ⟨_, H2, I2.tok _, ru, q2⟩
  | none =>
    rw [hl] at hr q2
    obtain rfl := hr
    exact ⟨.non, H2, I2.tok _, rfl, q2⟩
theorem P_kget {tab : List (Str × Int)} {d : Addr} (hg : Gl X x) (hm : X.mg x = some (.ref d)) (D : KTab X.K X.w d tab) (m : M1 X (.Name x p) "get" apos a cpos) (hd : (x == ("__debug__" : Str)) = false) (ha : EP X mu a ea) :
    EP X mu (.Call (.Attribute (.Name x p) "get" apos) [a] [] cpos) (.xp (kgW tab ea)) :=
  PEmono (pe_kget hg hm D ha m hd) fun σ H Q ⟨pn, δ, Fr, R, hp, s, h, q⟩ => ⟨pn, δ, Fr, _, hp, s, h, fun d v ⟨z, e, hr⟩ i => by
    subst e
    refine ⟨z, i.at, ?_⟩
    cases hl : lkS tab z with
    | some n => rw [hl] at hr; exact q _ _ hr i.mkat
    | none => rw [hl] at hr; exact q _ _ hr i.mkat⟩
/-! ### {k1: a, k2: b}.get(k, x) -/
def dspW (k1 k2 : Str) (ea eb ek ex : E) : Env → (D → Env → Prop) → Prop := fun δ Q => wpP ea δ fun da => wpP eb δ fun db => wpP ek δ fun dk => wpP ex δ fun dx => ∃ w1 w2 z w3, da = .at w1 ∧ db = .at w2 ∧ dk = .at (.str z) ∧ dx = .at w3 ∧ Q (.at (if k1 = z then w1 else if k2 = z then w2 else w3)) δ
theorem E_dsp {k1 k2 : Str} {j1 j2 : Nat} {p1 p2 dpos : Pos} {e x : Expr} {ek exx : E} (hu : X.A.units + 1 < cLine) (hne : k1 ≠ k2) (m : M2 X (.Dict [some (.Constant (.str k1) j1 p1), some (.Constant (.str k2) j2 p2)] [a, b] dpos) "get" apos e x cpos)
    (h1 : PE X (.Constant (.str k1) j1 p1) (tC (.str k1))) (h2 : PE X (.Constant (.str k2) j2 p2) (tC (.str k2))) (ha : EP X mu a ea) (hb : EP X mu b eb) (hk : EP X mu e ek) (hx : EP X mu x exx) (hs1 : noStar a = true) (hs2 : noStar b = true) :
    EE X Γ mu (.Call (.Attribute (.Dict [some (.Constant (.str k1) j1 p1), some (.Constant (.str k2) j2 p2)] [a, b] dpos) "get" apos) [e, x] [] cpos) (.xe (dspW k1 k2 ea eb ek exx)) := by
  refine PEmono (pe_dget2 hu (pe_disp (pps_cons h1 ha (pps_cons h2 hb pps_nil)) rfl rfl (fun z => by cases z) (by show 2 ≤ 15; decide)) hk hx m) fun σ H Q ⟨pn, δ, Fr, R, hp, s, h, q⟩ => ?_
  intro l hl
  have g := s.front
  have g1 : Good X.K (upd H l (.dK [])) (.cell l (.dK []) :: (Fr ++ envR σ δ)) := g.alloc hl trivial
  have s1 : Sim X.K pn σ δ (.cell l (.dK []) :: Fr) (upd H l (.dK [])) := s.ofc g1
  refine ⟨pn, δ, _, _, hp, s1, h, fun da v1 hda i1 => ⟨pn, δ, _, _, hp, s1, hda, fun db v2 hdb i2 => ⟨upd_same, ?_⟩⟩⟩
  have g2 : Good X.K (upd (upd H l (.dK [])) l (.dK (mergeK [] [(.inr k1, v1), (.inr k2, v2)]))) (.cell l (.dK (mergeK [] [(.inr k1, v1), (.inr k2, v2)])) :: (Fr ++ envR σ δ)) := g1.write trivial
  have s2 : Sim X.K pn σ δ (.cell l (.dK (mergeK [] [(.inr k1, v1), (.inr k2, v2)])) :: Fr) (upd (upd H l (.dK [])) l (.dK (mergeK [] [(.inr k1, v1), (.inr k2, v2)]))) := s1.ofc g2
  have hat : (upd (upd H l (.dK [])) l (.dK (mergeK [] [(.inr k1, v1), (.inr k2, v2)]))) l = some (.dK (mergeK [] [(.inr k1, v1), (.inr k2, v2)])) := upd_same
  refine ⟨[(.inr k1, v1), (.inr k2, v2)], rfl, by show 2 ≤ 15; decide, l, rfl, .inl ⟨_, .inl hat⟩, ?_⟩
  refine ⟨pn, δ, _, _, hp, s2, hdb, fun dk v3 hdk i3 => ⟨pn, δ, _, _, hp, s2, hdk, fun dx v4 hdx i4 => ?_⟩⟩
  obtain ⟨w1, w2, z, w3, rfl, rfl, rfl, rfl, hq⟩ := hdx
  obtain rfl := i1.at
  obtain rfl := i2.at
  obtain rfl := i3.at
  obtain rfl := i4.at
  have hm : mergeK [] [((.inr k1 : Key), v1), (.inr k2, v2)] = [(.inr k1, v1), (.inr k2, v2)] := mergeK_nodup _ _ (by simp [hne])
  refine ⟨_, DGet.k (k := .inr z) hat, ?_⟩
  rw [hm]
  have he : (valV [((.inr k1 : Key), v1), (.inr k2, v2)] (.inr z)).getD v4 = if k1 = z then v1 else if k2 = z then v2 else v4 := by
    by_cases h1 : k1 = z
    · subst h1; rw [valV_pos rfl, if_pos rfl]; rfl
    · rw [valV_neg (by simpa using h1), if_neg h1]
      by_cases h2 : k2 = z
      · subst h2; rw [valV_pos rfl, if_pos rfl]; rfl
      · rw [valV_neg (by simpa using h2), if_neg h2]; rfl
  rw [he]
  rw [hm] at s2
  exact q _ δ _ _ hq (Sim.drop (r := .cell l (.dK [(.inr k1, v1), (.inr k2, v2)])) (s2.mkat.perm (.swap ..)))
end
end Z
set_option Elab.async false
set_option linter.all false
set_option maxRecDepth 100000
set_option autoImplicit false
namespace Z
open PySem PySem.Spec PyProof.Rows L2
/-! ## a def keeps its promise, the module's facts at hand -/
section
variable {P : Program} {w : World} {K : PySem.W.Frag} {mg : Str → Option Value} {base : Heap}
theorem def_okG {x qual : Str} {st : Stmt} {f : Addr} {fd : FuncData} {N ps : List Str} {k : Nat} {BL : List Str} {FT : List FnI} {av : List Nat} {Γ : Nat → Ct} {mp : Option Nat} {ss : Ss} {ct : Ct} (F : Fun K x qual st f fd) (S : FnScope N ps (defScope st)) (bl : ∀ x ∈ BL, mg x = none)
    (fns : ∀ i e, i ∈ av → FT[i]? = some e → ModF P w K mg base k e (Γ i)) (der : ∀ X, X.mg = mg → X.K = K → X.w = w → X.prog = P → CxD X N (defScope st) BL FT av Γ → ESs X Γ mp.toList (defBody st) ss)
    (law : ∀ ds r o, ct ds r o → ds.length = ps.length ∧ wpSs Γ ss (startD N.length ds) (retW mp r o)) : FnOk P w K mg base CX0 (k + 1) f fd ps (spOf K ps.length mp ct) := by
  refine F.ok S (fun vs H Q E h => ?_) (fun cdv A outer s H vs Q E hr hsp => ?_)
  · obtain ⟨_, _, _, _, h, _⟩ := h; exact h
  · obtain ⟨ds, Fr, r, o, hln, hl, g, hc, q⟩ := hsp
    obtain ⟨hdl, hw⟩ := law ds r o hc
    have fin : ∀ {d : D} {δ' : Env} {v : V} {σ' : L2.St} {H' : Hp}, d = r → (∀ m, mp = some m → ∃ d', o = some d' ∧ δ'[m]? = some (some d')) → Sim K (pnOf mp vs) σ' δ' (.val v d :: Fr) H' → Q v H' := by
      intro d δ' v σ' H' e hm s'
      subst e
      match mp, hm, q, s' with
      | none, _, q, s' => exact q v H' (Good.left (L' := envR σ' δ') (by simpa [outR] using s'.front))
      | some m, hm, q, s' =>
        obtain ⟨d', rfl, e2⟩ := hm m rfl
        obtain ⟨w, e3, s2⟩ := s'.out e2
        cases e4 : vs[m]? with
        | none =>
          refine q v H' ?_
          simp only [outR, e4]
          exact Good.left (L' := envR σ' δ') (by simpa using s'.front)
        | some u =>
          have e5 := s'.pin (m, u) (by simp [pnOf, e4])
          have e5 : σ'[m]? = some (some u) := e5
          obtain rfl : u = w := by rw [e3] at e5; exact (Option.some.inj (Option.some.inj e5)).symm
          refine q v H' ?_
          simp only [outR, e4]
          have g2 := s2.front
          exact Good.left (L' := envR σ' (δ'.set m none)) ((show Good K H' (.val u d' :: .val v d :: (Fr ++ envR σ' (δ'.set m none))) from g2).perm (.swap ..))
    refine ⟨_, der _ rfl rfl rfl rfl ⟨⟨rfl, S.nd, rfl, S.kind, rfl, ?_, bl, fun i e h1 h2 => ?_, ?_⟩, fun _ => rfl, PassesOwn.never⟩ (fun _ _ _ _ => False) takesF, pnOf mp vs, startD N.length ds, Fr, retW mp r o, ?_, sim_start hl g, hw, ?_, ?_, ?_, ?_, ?_⟩
    · have := hr.un
      show _ + 64 < cLine
      exact Nat.lt_of_le_of_lt (show (A.deeper (envOfC qual (defScope st) s.heap.objs.size f cdv)).units + 64 ≤ _ by omega) this
    · exact (fns i e h1 h2).fnx (X := (cxOf CX0 P w K mg base N qual (defScope st) f cdv A outer s H E).nox) hr
    · have := hr.un
      show _ + 65 < cLine
      exact Nat.lt_of_le_of_lt (show (A.deeper (envOfC qual (defScope st) s.heap.objs.size f cdv)).units + 65 ≤ _ by omega) this
    · intro p hp
      unfold pnOf at hp
      split at hp
      · simp at hp
      · split at hp
        · simp at hp
        · simp only [List.mem_singleton] at hp
          subst hp
          simp
    · exact fun δ' σ' H' ⟨e, hm⟩ s' => fin (d := .at .non) e hm s'.mkat
    · exact fun δ' σ' H' h => h.elim
    · exact fun δ' σ' H' h => h.elim
    · exact fun d δ' v σ' H' ⟨e, hm⟩ s' => fin e hm s'
    · exact fun x C fs d δ' σ' H' h => h.elim
end
end Z
set_option Elab.async false
set_option linter.all false
set_option maxRecDepth 100000
set_option autoImplicit false
namespace Z
open PySem PySem.Spec PyProof.Rows L2
/-! ## (a, b) not in a written tuple of pairs -/
def rNotInT (K : PySem.W.Frag) : R2 := fun x y H Q => ∃ d ds, Dp K H x d ∧ Dp K H y (.tuple ds) ∧ SeqAt.shaped d = true ∧ SeqAt.shaped (.tuple ds) = true ∧ Q (.bl (!ds.any fun z => PyData.eqv z d)) H
section
variable {X : Cx} {Γ : Nat → Ct} {mu : List Nat} {a b c o ex : Expr} {ea eb ec eo : E} {pos p apos cpos : Pos}
theorem op_notInT (hu : X.A.units + 65 < cLine) : OpR X (compareOp .NotIn) (rNotInT X.K) := by
  intro pins s σ H x y v u Q I rx ry h
  obtain ⟨d, ds, hd, he, sd, se, q⟩ := h
  obtain ⟨_, r1⟩ := Dp.reads I d x v hd rx
  obtain ⟨_, r2⟩ := Dp.reads I (.tuple ds) y u he ry
  exact SeqAt.notIn_tuple_reads r2 r1 (SeqAt.canLay_of_shaped se) (SeqAt.canLay_of_shaped sd) (room_in_shaped sd hu) ⟨.bl _, H, I, rfl, q⟩
def prD (p : Str × Int) : D := .nd .tup false [.at (.str p.1), .at (.int p.2)]
def prY (p : Str × Int) : PyData := .tuple [.str p.1, .int p.2]
theorem pydL_pr : ∀ tab : List (Str × Int), pydL (tab.map prD) = some (tab.map prY)
  | [] => rfl
  | p :: tab => by
    show (pyd (prD p)).bind _ = _
    rw [show pyd (prD p) = some (prY p) from rfl]
    simp [pydL_pr tab]
def ninR (tab : List (Str × Int)) (k : Bool → Prop) : D → Prop
  | .nd .tup false [.at (.str s), .at (.int n)] => PyData.strOk s = true ∧ k (!tab.any fun p => decide (p.1 = s) && decide (p.2 = n))
  | _ => False
def ninW (e1 e2 : E) (tab : List (Str × Int)) : Env → (D → Env → Prop) → Prop := fun δ Q => wpP e1 δ fun x => x.froz = true ∧ wpP e2 δ fun y => y.froz = true ∧ [x, y].length ≤ sizeLine ∧ ninR tab (fun b => Q (.at (.bl b)) δ) (.nd .tup false [x, y])
theorem ninR_out {tab : List (Str × Int)} {k : Bool → Prop} {d : D} (h : ninR tab k d) : ∃ s n, d = .nd .tup false [.at (.str s), .at (.int n)] ∧ PyData.strOk s = true ∧ k (!tab.any fun p => decide (p.1 = s) && decide (p.2 = n)) := by
  unfold ninR at h
  split at h
  · exact ⟨_, _, rfl, h⟩
  · exact h.elim
theorem eqv_pr (p : Str × Int) (k : Str) (n : Int) : PyData.eqv (prY p) (.tuple [.str k, .int n]) = (decide (p.1 = k) && decide (p.2 = n)) := by
  obtain ⟨k', n'⟩ := p
  by_cases h1 : k' = k <;> by_cases h2 : n' = n <;> simp [h1, h2, prY, PyData.eqv, PyData.eqvAll]
theorem shp_pr {k : Str} {n : Int} (h : PyData.strOk k = true) : SeqAt.shaped (.tuple [.str k, .int n]) = true := by
  simp [SeqAt.shaped, PyData.canLay0, PyData.canLayAll0, PyData.depth, PyData.depthAll, h]
theorem T_nin2 {es : List Expr} {fs : Es} {bs : List (Nat × Nat)} {j1 j2 : Nat} {q1 q2 : Pos} {tab : List (Str × Int)} (hu : X.A.units + 65 < cLine) (hs1 : noStar a = true) (hs2 : noStar b = true) (hm : behindInMarks .NotIn (.Tuple es j2 q2) = false) (hsh : SeqAt.shaped (.tuple (tab.map prY)) = true)
    (ha : EP X mu a ea) (hb : EP X mu b eb) (hr : EA X Γ mu bs es fs) (hz : tab.length ≤ sizeLine) (hfs : ∀ δ Q, Q (tab.map prD) δ → wpEs Γ fs δ Q) :
    ET X Γ mu (.Compare (.Tuple [a, b] j1 q1) [.NotIn] [.Tuple es j2 q2] pos) (.v (.xe (ninW ea eb tab))) := by
  have e1 : EE X Γ mu (.Tuple [a, b] j1 q1) (.tup (.cons (.pv ea) (.cons (.pv eb) .nil))) := E_tup (A_cons hs1 (E_pv ha) (A_cons hs2 (E_pv hb) A_nil))
  have e2 : EE X Γ mu (.Tuple es j2 q2) (.tup fs) := E_tup hr
  refine PTmono (pt_cmpR (op_notInT hu) e1 e2 hm) fun σ H Q ⟨pn, δ, Fr, R, hp, s, h, q⟩ => ?_
  refine ⟨pn, δ, Fr, fun d δ1 => ninR tab (fun b => R b δ1) d, hp, s, h, fun d δ1 v H1 hd s1 => ?_⟩
  obtain ⟨k, n, rfl, hok, hk⟩ := ninR_out hd
  refine ⟨pn, δ1, _, fun y δ2 => y = .nd .tup false (tab.map prD) ∧ δ2 = δ1, hp, s1, ?_, fun y δ2 u H2 ⟨ey, e2⟩ s2 => ?_⟩
  · exact hfs δ1 _ ⟨by rw [List.length_map]; exact hz, rfl, rfl⟩
  · subst ey e2
    have i1 := (s2.seen (v := v) (d := .nd .tup false [.at (.str k), .at (.int n)]) (by simp)).dp (x := .tuple [.str k, .int n]) rfl
    have i2 := (s2.seen (v := u) (d := .nd .tup false (tab.map prD)) (by simp)).dp (x := .tuple (tab.map prY)) (by simp [pyd, pydL_pr])
    refine ⟨_, _, i1, i2, shp_pr hok, hsh, _, rfl, ?_⟩
    have : (tab.map prY).any (fun z => PyData.eqv z (.tuple [.str k, .int n])) = tab.any fun p => decide (p.1 = k) && decide (p.2 = n) := by
      rw [List.any_map]
      congr 1
      funext p
      exact eqv_pr p k n
    rw [this]
    exact q _ δ2 H2 hk (Sim.dropL (Fr := [_, _]) s2)
end
end Z
set_option Elab.async false
set_option linter.all false
set_option maxRecDepth 100000
set_option autoImplicit false
namespace Z
open PySem PySem.Spec PyProof.Rows L2
/-! ## a list handed over whose items are frozen from now on -/
theorem Good.frzAll {K : PySem.W.Frag} {H : Hp} : ∀ {ds : List D} {vs : List V} {L : List Res}, vs.length = ds.length → Good K H (vals vs ds ++ L) → Good K H (vals vs (frzL ds) ++ L)
  | [], [], _, _, g => g
  | [], _ :: _, _, h, _ => by simp at h
  | _ :: _, [], _, h, _ => by simp at h
  | d :: ds, v :: vs, L, h, g => by
    have g1 : Good K H (.val v d.frz :: (vals vs ds ++ L)) := Good.frz g
    have g2 : Good K H (vals vs ds ++ (.val v d.frz :: L)) := g1.perm List.perm_middle.symm
    exact (Good.frzAll (ds := ds) (vs := vs) (by simpa using h) g2).perm List.perm_middle
def mvfW (i : Nat) : Env → (D → Env → Prop) → Prop := fun δ Q => ∃ ds, δ[i]? = some (some (.nd .lst true ds)) ∧ Q (.nd .lst true (frzL ds)) (δ.set i none)
section
variable {X : Cx} {Γ : Nat → Ct} {mu : List Nat} {pos : Pos} {x : Str} {N : List Str} {sc : Scope} {BL : List Str} {FT : List FnI} {av : List Nat}
theorem V_mvf (C : CxP X N sc BL FT av Γ) (i : Nat) (h : nmC N sc i x = true) : EE X Γ mu (.Name x pos) (.xe (mvfW i)) :=
  PEmono (pe_var (C.nm h).ix (C.nm h).vis (C.nm h).db (C.nm h).cd) fun σ H Q ⟨pn, δ, Fr, R, hp, s, ⟨ds, e, r⟩, q⟩ => by
    obtain ⟨v, e1, s1⟩ := s.out e
    refine ⟨v, e1, q _ _ v H r ?_⟩
    obtain ⟨a, xs, rfl, hl, hf, hH, g1⟩ := s1.front.unpack rfl
    have g2 : Good X.K H (vals xs ds ++ (.cell a (ho .lst xs) :: (Fr ++ envR σ (δ.set i none)))) := g1.perm List.perm_middle.symm
    have g3 := (g2.frzAll hl).perm List.perm_middle
    exact s1.of (Good.pack (k := .lst) rfl (by rw [frzL_length]; exact hl) trivial g3)
end
end Z
set_option Elab.async false
set_option linter.all false
set_option maxRecDepth 100000
set_option autoImplicit false
namespace Z
open PySem PySem.Spec PyProof.Rows L2
/-! ## a written dict of texts to ints, from its entries -/
def EsTab (P : Params) : List DictEntry → List (Str × Int) → Prop
  | [], [] => True
  | e :: es, (k, n) :: tab => (∃ t u, e = ⟨PyData.keyHash P k, .str k t, .int n u⟩) ∧ EsTab P es tab
  | _, _ => False
theorem estab_lit {P : Params} : ∀ {es : List DictEntry} {tab : List (Str × Int)}, EsTab P es tab → PySem.W.KeysLit P es
  | [], [], _ => trivial
  | e :: es, (k, n) :: tab, ⟨⟨t, u, he⟩, r⟩ => by
    subst he
    exact ⟨⟨k, t, rfl, rfl⟩, estab_lit r⟩
theorem estab_ref {P : Params} : ∀ {es : List DictEntry} {tab : List (Str × Int)}, EsTab P es tab → es.any (·.refKey) = false
  | [], [], _ => rfl
  | e :: es, (k, n) :: tab, ⟨⟨t, u, he⟩, r⟩ => by
    subst he
    have ih := estab_ref r
    show (_ || es.any (·.refKey)) = false
    rw [ih]; rfl
theorem estab_find {P : Params} (z : Str) : ∀ {es : List DictEntry} {tab : List (Str × Int)}, EsTab P es tab → match lkS tab z with
    | some n => ∃ e u, es.find? (·.key.isStr z) = some e ∧ e.val = .int n u
    | none => es.find? (·.key.isStr z) = none
  | [], [], _ => rfl
  | e :: es, (k, n) :: tab, ⟨⟨t, u, he⟩, r⟩ => by
    subst he
    have ih := estab_find z r
    have e1 : (Value.str k t).isStr z = decide (k = z) := by
      rw [PySem.W.isStr_of]
      show (k == z) = decide (k = z)
      by_cases hk : k = z
      · subst hk; simp
      · rw [decide_eq_false hk]; exact beq_eq_false_iff_ne.mpr hk
    by_cases hk : k = z
    · simp only [lkS, if_pos hk]
      exact ⟨_, u, by rw [List.find?_cons, e1, decide_eq_true hk], rfl⟩
    · simp only [lkS, if_neg hk]
      have : (⟨PyData.keyHash P k, .str k t, .int n u⟩ :: es : List DictEntry).find? (·.key.isStr z) = es.find? (·.key.isStr z) := by rw [List.find?_cons, e1, decide_eq_false hk]
      rw [this]
      exact ih
theorem ktab_of {K : PySem.W.Frag} {w : World} {d : Addr} {es : List DictEntry} {n : Nat} {tab : List (Str × Int)} (h : K.lookup d = some ⟨.type "dict", none, .dict es.toArray n, #[]⟩) (hs : (d == sysModules) = false) (hm : EsTab w.params es tab) : KTab K w d tab := by
  refine ⟨⟨es.toArray, n, h, by simpa using estab_lit hm, hs⟩, fun z => ?_⟩
  have hf := estab_find z hm
  have hr := estab_ref hm
  unfold PySem.W.nsIn
  rw [h]
  simp only
  cases hl : lkS tab z with
  | some v =>
    rw [hl] at hf
    obtain ⟨e, u, h1, h2⟩ := hf
    rw [h1]
    exact ⟨_, rfl, _, rfl, by rw [h2]; exact ⟨u, rfl⟩⟩
  | none =>
    rw [hl] at hf
    simp only at hf
    rw [hf, hr]
    exact ⟨none, rfl, rfl⟩
end Z
set_option Elab.async false
set_option linter.all false
set_option maxRecDepth 100000
set_option autoImplicit false
namespace Z
open PySem PySem.Spec PyProof.Rows L2
/-! ## texts -/
@[simp] theorem q_str_s {x : Str} {k : D → Prop} : evStr (.at (.str x)) k = k (.at (.str x)) := rfl
@[simp] theorem q_int_s {x : Str} {k : D → Prop} : evInt (.at (.str x)) k = ∃ n, PySem.intText? x = some n ∧ x.length ≤ 640 ∧ k (.at (.int n)) := rfl
@[simp] theorem q_idx_s {z : Str} {i : Int} {k : D → Prop} : evIdx (.at (.str z)) (.at (.int i)) k = (z.length ≤ sizeLine ∧ ∃ c, atI z.cps.toList i = some c ∧ k (.at (.str ⟨#[c]⟩))) := rfl
abbrev sL (xs : List Str) : List D := xs.map fun x => D.at (.str x)
theorem frozL_sL : ∀ xs : List Str, frozL (sL xs) = true
  | [] => rfl
  | x :: xs => frozL_sL xs
theorem vals_at : ∀ (vs : List V), vals vs (vs.map D.at) = vs.map fun v => Res.val v (.at v)
  | [] => rfl
  | v :: vs => congrArg (Res.val v (.at v) :: ·) (vals_at vs)
theorem good_ats {K : PySem.W.Frag} {H : Hp} {L : List Res} (g : Good K H L) : ∀ (vs : List V), Good K H (vals vs (vs.map D.at) ++ L)
  | [] => g
  | v :: vs => (good_ats g vs).mkat (w := v)
section
variable {X : Cx} {Γ : Nat → Ct} {mu : List Nat} {a b c o ex : Expr} {ea eb ec eo : E} {pos p apos p2 : Pos} {t1 t2 : T} {x : Str} {i : Nat}
/-- a.split(b) -/
def splW (eo eb : E) : Env → (D → Env → Prop) → Prop := fun δ Q => wpP eo δ fun x => ∃ a, x = .at (.str a) ∧ wpP eb δ fun y => ∃ b, y = .at (.str b) ∧ (b.length == 0) = false ∧ a.length + 2 ≤ sizeLine ∧ Q (.nd .lst true (sL (Txt.split a b))) δ
theorem E_split (hs : noStar b = true) (hb0 : attributeBase o "split" X.env (eval o X.env) = eval o X.env) (hl : (apos.endLine == pos.line) = true) (ho : EP X mu o eo) (hb : EP X mu b eb) :
    EE X Γ mu (.Call (.Attribute o "split" apos) [b] [] pos) (.xe (splW eo eb)) :=
  PEmono (pe_split ho hb (noStar_star hs) hb0 hl) fun σ H Q ⟨pn, δ, Fr, R, hp, s, h, q⟩ => ⟨pn, δ, Fr, _, hp, s, h, fun d v ⟨z, e, hr⟩ i => by
    subst e
    have ev := i.at
    refine ⟨⟨z, ev⟩, pn, δ, Fr, _, hp, s, hr, fun d2 v2 ⟨y, e2, h1, h2, hR⟩ i2 => ?_⟩
    subst e2
    refine ⟨z, y, ev, by rw [i2.at], h1, h2, fun p np => q _ δ _ _ hR ?_⟩
    have e3 : sL (Txt.split z y) = ((Txt.split z y).map V.str).map D.at := by rw [List.map_map]; rfl
    have g := good_ats s.front ((Txt.split z y).map V.str)
    rw [← e3] at g
    exact s.ofc (A := Fr) (Good.pack (k := .lst) rfl (by simp) trivial (g.alloc np trivial))⟩
/-- one sign not in a text -/
def evNinS : D → D → (D → Prop) → Prop := fun x y k => ∃ c z, x = .at (.str ⟨#[c]⟩) ∧ y = .at (.str z) ∧ k (.at (.bl (!decide (c ∈ z.cps.toList))))
theorem does_ninS : Does2 X (fun x y H Q => ∃ (c : Nat) (z : Str), x = .str ⟨#[c]⟩ ∧ y = .str z ∧ Q (.bl (!decide (c ∈ z.cps.toList))) H) evNinS := fun L H v u d e R Q h1 h2 ⟨c, z, e1, e2, h⟩ q => by
  subst e1 e2
  exact ⟨c, z, h1.at, h2.at, q _ _ h h1.mkat⟩
def ninS (ea eb : E) : Env → (D → Prop) → Prop := fun δ k => wpP ea δ fun x => wpP eb δ fun y => evNinS x y k
theorem P_ninS (hm : noLc b = true) (ha : EP X mu a ea) (hb : EP X mu b eb) : EP X mu (.Compare a [.NotIn] [b] pos) (.xp (ninS ea eb)) :=
  p_b (ev := evNinS) (wp := wpP ea) (wp' := wpP eb) (fun _ _ ha hb => pe_cmpR op_notIn_sign ha hb (noLc_mark hm)) does_ninS ha hb
theorem PT_ninS (hm : noLc b = true) (ha : EP X mu a ea) (hb : EP X mu b eb) : EPT X mu (.Compare a [.NotIn] [b] pos) (.v (.xp (ninS ea eb))) :=
  pt_b (ev := evNinS) (wp := wpP ea) (wp' := wpP eb) op_notIn_sign does_ninS (fun x y k ⟨c, z, e1, e2, h⟩ => ⟨c, z, e1, e2, _, rfl, h⟩) ha hb (noLc_mark hm)
def evMulS : D → D → (D → Prop) → Prop := fun x y k => ∃ (z : Str) (n : Int), x = .at (.str z) ∧ y = .at (.int n) ∧ -(2 ^ 63) ≤ n ∧ n < 2 ^ 63 ∧ z.length * n.toNat ≤ 16777216 ∧ k (.at (.str (repS z n)))
def mulS (ea eb : E) : Env → (D → Prop) → Prop := fun δ k => wpP ea δ fun x => wpP eb δ fun y => evMulS x y k
theorem P_mulS (ha : EP X mu a ea) (hb : EP X mu b eb) : EP X mu (.BinOp a .Mult b pos) (.xp (mulS ea eb)) :=
  p_b (ev := evMulS) (wp := wpP ea) (wp' := wpP eb) (fun _ _ ha hb => pe_op op_mulS ha hb) (fun L H v u d e R Q h1 h2 ⟨z, n, e1, e2, c1, c2, c3, h⟩ q => by
    subst e1 e2
    exact ⟨z, n, h1.at, h2.at, c1, c2, c3, q _ _ h h1.mkat⟩) ha hb
/-- c + a.replace(y, z), written texts: the constant ahead has a token -/
def crpW (c y z : Str) (eo : E) : Env → (D → Prop) → Prop := fun δ k => wpP eo δ fun x => ∃ a, x = .at (.str a) ∧ a.length + (a.length + 1) * z.length ≤ 16777216 ∧ c.length + (Txt.replace a y z).length ≤ sizeLine ∧ k (.at (.str (c ++ Txt.replace a y z)))
theorem pe_crp {to : TE} {c y z : Str} {j k l : Nat} {c0 c1 c2 : Pos} (ho : PE X o to) (hyz : (y == z) = false)
    (hst : starEach [.Constant (.str y) j c0, .Constant (.str z) k c1] X.env = [(false, eval (.Constant (.str y) j c0) X.env), (false, eval (.Constant (.str z) k c1) X.env)])
    (hbase : attributeBase o "replace" X.env (eval o X.env) = eval o X.env) (hline : (apos.endLine == p2.line) = true) :
    PE X (.BinOp (.Constant (.str c) l c2) .Add (.Call (.Attribute o "replace" apos) [.Constant (.str y) j c0, .Constant (.str z) k c1] [] p2) pos)
      (fun σ H Q => CwR.tReplC to y z σ H fun w H1 => ∃ r, w = .str r ∧ c.length + r.length ≤ sizeLine ∧ Q (.str (c ++ r)) H1) := by
  refine ⟨fun pins s σ H Q I h => ?_⟩
  refine wpAny_BinOp (Calls.Constant_str ?_)
  refine thn (CwR.pet_replC ho hyz hst hbase hline pins _ σ H _ (by show 1 ≤ s.toks + 1; omega) (I.tok _) h) fun v s1 ⟨w, H1, I1, r1, x, e1, hl, q⟩ => ?_
  exact op_add_str pins s1 σ H1 (.str c) w (.str c s.toks) v Q I1 ⟨_, rfl⟩ r1 ⟨c, x, rfl, e1, hl, q⟩
theorem P_crp {c y z : Str} {j k l : Nat} {c0 c1 c2 : Pos} (hyz : (y == z) = false)
    (hst : starEach [.Constant (.str y) j c0, .Constant (.str z) k c1] X.env = [(false, eval (.Constant (.str y) j c0) X.env), (false, eval (.Constant (.str z) k c1) X.env)])
    (hbase : attributeBase o "replace" X.env (eval o X.env) = eval o X.env) (hline : (apos.endLine == p2.line) = true) (ho : EP X mu o eo) :
    EP X mu (.BinOp (.Constant (.str c) l c2) .Add (.Call (.Attribute o "replace" apos) [.Constant (.str y) j c0, .Constant (.str z) k c1] [] p2) pos) (.xp (crpW c y z eo)) :=
  PEmono (pe_crp ho hyz hst hbase hline) fun σ H Q ⟨pn, δ, Fr, R, hp, s, h, q⟩ => ⟨pn, δ, Fr, _, hp, s, h, fun d v ⟨a, e, h1, h2, hR⟩ i => by
    subst e
    exact ⟨a, i.at, h1, _, rfl, h2, q _ _ hR i.mkat⟩⟩
end
end Z
set_option Elab.async false
set_option linter.all false
set_option maxRecDepth 100000
set_option autoImplicit false
namespace Z
open PySem PySem.Spec PyProof.Rows L2
/-! ## a displayed dict with written texts as keys -/
def wpPL : List E → Env → (List V → Prop) → Prop
  | [], _, k => k []
  | e :: es, δ, k => wpP e δ fun d => ∃ v, d = .at v ∧ wpPL es δ fun vs => k (v :: vs)
def dicS (ks : List Str) (es : List E) : Env → (D → Env → Prop) → Prop := fun δ Q => wpPL es δ fun vs => vs.length = ks.length ∧ Q (.nd (.dK (ks.map .inr)) true (vs.map D.at)) δ
theorem nodup_inr {ks : List Str} (h : ks.Nodup) : (ks.map (Sum.inr : Str → Key)).Nodup := List.Pairwise.map _ (fun a b h1 h2 => h1 (Sum.inr.inj h2)) h
structure PPL (X : Cx) (mu : List Nat) (pos : Pos) (ks : List Str) (es : List E) (keys : List (Option Expr)) (values : List Expr) : Prop where
  ex : ∃ trs, PPs X pos keys values trs ∧ ∀ σ H (Q : List (V × V) → Hp → Prop) pn δ Fr (R : List V → Prop), Pn mu pn → Sim X.K pn σ δ Fr H → wpPL es δ R → (∀ vs, R vs → Q ((ks.map V.str).zip vs) H) → tPairs trs σ H Q
section
variable {X : Cx} {Γ : Nat → Ct} {mu : List Nat} {a b c o ex : Expr} {ea eb ec eo : E} {pos p apos p2 : Pos} {t1 t2 : T} {x : Str} {i : Nat}
theorem ppl_nil : PPL X mu pos [] [] [] [] := ⟨[], pps_nil, fun σ H Q pn δ Fr R hp s h q => q [] h⟩
theorem ppl_cons {k : Str} {ks : List Str} {es : List E} {keys : List (Option Expr)} {values : List Expr} {j : Nat} (ha : EP X mu a ea) (h : PPL X mu pos ks es keys values) : PPL X mu pos (k :: ks) (ea :: es) (some (.Constant (.str k) j p) :: keys) (a :: values) := by
  obtain ⟨trs, h1, h2⟩ := h.ex
  refine ⟨_, pps_cons pe_str ha h1, fun σ H Q pn δ Fr R hp s hw q => ?_⟩
  refine ⟨pn, δ, Fr, _, hp, s, hw, fun d v ⟨w, e, hr⟩ i => ?_⟩
  subst e
  have ev := i.at
  subst ev
  exact h2 σ H _ pn δ Fr _ hp s hr fun vs hR => q _ hR
theorem E_dicS {ks : List Str} {es : List E} {keys : List (Option Expr)} {values : List Expr} (h : PPL X mu pos ks es keys values) (hall : keys.all (·.isSome) = true) (hl : keys.length = values.length) (h0 : keys ≠ []) (h15 : keys.length ≤ 15) (hk : ks.length ≤ 15) (hn : ks.Nodup) :
    EE X Γ mu (.Dict keys values pos) (.xe (dicS ks es)) := by
  obtain ⟨trs, h1, h2⟩ := h.ex
  refine PEmono (pe_disp h1 hall hl h0 h15) fun σ H Q ⟨pn, δ, Fr, R, hp, s, hw, q⟩ l hl => ?_
  have g1 : Good X.K (upd H l (.dK [])) (.cell l (.dK []) :: (Fr ++ envR σ δ)) := s.front.alloc hl trivial
  have s1 : Sim X.K pn σ δ (.cell l (.dK []) :: Fr) (upd H l (.dK [])) := s.ofc g1
  refine h2 σ _ _ pn δ _ _ hp s1 hw fun vs ⟨hv, hR⟩ => ?_
  have hm : mergeK [] ((ks.map (Sum.inr : Str → Key)).zip vs) = (ks.map (Sum.inr : Str → Key)).zip vs := by
    have hz : (((ks.map (Sum.inr : Str → Key)).zip vs).map (·.1)) = ks.map Sum.inr := List.map_fst_zip (by simp [hv])
    have := mergeK_nodup ((ks.map (Sum.inr : Str → Key)).zip vs) [] (by
      rw [List.nil_append, hz]
      exact nodup_inr hn)
    simpa using this
  refine ⟨upd_same, (ks.map Sum.inr).zip vs, ?_, ?_, ?_⟩
  · rw [List.zip_map_left, List.zip_map_left, List.map_map]
    rfl
  · rw [List.length_zip, List.length_map]; omega
  · rw [hm]
    refine q _ δ _ _ hR ?_
    have g2 : Good X.K _ (.cell l (ho (.dK (ks.map Sum.inr)) vs) :: (Fr ++ envR σ δ)) := g1.write (o' := ho (.dK (ks.map Sum.inr)) vs) trivial
    have g3 := (good_ats g2 vs).perm (List.perm_middle)
    exact s.ofc (A := Fr) (Good.pack (k := .dK (ks.map Sum.inr)) rfl (by simp) ⟨by simp [hv], nodup_inr hn⟩ g3)
@[simp] theorem q_rep_s {z : Str} {n : Int} {δ : Z.Env} {Q : D → Z.Env → Prop} : repW (.at (.str z)) (.at (.int n)) δ Q = (-(2 ^ 63) ≤ n ∧ n < 2 ^ 63 ∧ z.length * n.toNat ≤ 16777216 ∧ Q (.at (.str (repS z n))) δ) := rfl
@[simp] theorem q_rep_t {o : Bool} {xs : List D} {n : Int} {δ : Z.Env} {Q : D → Z.Env → Prop} : repW (.nd .tup o xs) (.at (.int n)) δ Q = (frozL xs = true ∧ xs ≠ [] ∧ 2 ≤ n ∧ xs.length * n.toNat ≤ 1000000 ∧ Q (.nd .tup false (List.replicate n.toNat xs).flatten) δ) := rfl
/-- the name in slot i is frozen first -/
theorem E_fz (i : Nat) (h : EE X Γ mu ex ea) : EE X Γ mu ex (.fz i ea) :=
  PEmono h fun σ H Q ⟨pn, δ, Fr, R, hp, s, ⟨d, e, hw⟩, q⟩ => by
    obtain ⟨v, e1, s1⟩ := s.out e
    have s2 : Sim X.K pn σ (δ.set i none) (.val v d.frz :: Fr) H := s1.of s1.front.frz
    have s3 := s2.back (i := i) e1
    rw [List.set_set] at s3
    exact ⟨pn, _, Fr, R, hp, s3, hw, q⟩
@[simp] theorem q_fz {i : Nat} {e : E} {δ : Z.Env} {Q : D → Z.Env → Prop} : wpE Γ (.fz i e) δ Q = ∃ d, δ[i]? = some (some d) ∧ wpE Γ e (δ.set i (some d.frz)) Q := rfl
end
end Z
set_option Elab.async false
set_option linter.all false
set_option maxRecDepth 100000
set_option autoImplicit false
namespace Z
open PySem PySem.Spec PyProof.Rows L2
/-! ## defs that raise an own exception with two plain fields -/
/-- ct ds r none: r is handed back; ct ds (v1, v2) (some _): the class x is raised with n1 = v1, n2 = v2 -/
def spR (K : PySem.W.Frag) (mg : Str → Option Value) (x n1 n2 : Str) (n : Nat) (ct : Ct) : Sp := fun vs H Q E => ∃ ds Fr r o, vs.length = n ∧ vs.length = ds.length ∧ Good K H (vals vs ds ++ Fr) ∧ ct ds r o ∧
  (o = none → ∀ v H', Good K H' (.val v r :: Fr) → Q v H') ∧
  ∀ v1 v2 C, o ≠ none → r = .nd .tup false [.at v1, .at v2] → mg x = some (.ref C) → ∀ d H', Good K H' (.cell d (.xd [(n2, v2), (n1, v1)]) :: Fr) → E (.ref C) (some d) H'
structure FnRX (X : Cx) (nm : Str) (n : Nat) (x n1 n2 : Str) (ct : Ct) : Prop where
  len : ∀ ds r o, ct ds r o → ds.length = n
  ex : ∃ k f fd ps, FnOk X.prog X.w X.K X.mg X.base (L2.CX X.prog X.w) k f fd ps (spR X.K X.mg x n1 n2 n ct) ∧ Room k X.A ∧ X.mg nm = some (.ref f) ∧ PySem.W.keepIn X.K (.ref f) = true ∧ Binds X.K fd ps []
structure ModR (P : Program) (w : World) (K : PySem.W.Frag) (mg : Str → Option Value) (base : Heap) (k : Nat) (nm : Str) (n : Nat) (x n1 n2 : Str) (ct : Ct) : Prop where
  len : ∀ ds r o, ct ds r o → ds.length = n
  ex : ∃ f fd ps, FnOk P w K mg base (L2.CX P w) k f fd ps (spR K mg x n1 n2 n ct) ∧ mg nm = some (.ref f) ∧ PySem.W.keepIn K (.ref f) = true ∧ Binds K fd ps []
theorem ModR.fnx {X : Cx} {k : Nat} {nm : Str} {n : Nat} {x n1 n2 : Str} {ct : Ct} (F : ModR X.prog X.w X.K X.mg X.base k nm n x n1 n2 ct) (hr : Room k X.A) : FnRX X nm n x n1 n2 ct :=
  ⟨F.len, let ⟨f, fd, ps, a, b, c, d⟩ := F.ex; ⟨k, f, fd, ps, a, hr, b, c, d⟩⟩
theorem ModR.mono {P : Program} {w : World} {K : PySem.W.Frag} {mg : Str → Option Value} {base : Heap} {j k : Nat} {nm : Str} {n : Nat} {x n1 n2 : Str} {ct : Ct} (F : ModR P w K mg base j nm n x n1 n2 ct) (h : j ≤ k) : ModR P w K mg base k nm n x n1 n2 ct :=
  ⟨F.len, let ⟨f, fd, ps, a, b⟩ := F.ex; ⟨f, fd, ps, a.mono h, b⟩⟩
section
variable {X : Cx} {Γ : Nat → Ct} {mu : List Nat} {a b c o ex e : Expr} {es : List Expr} {bs : List (Nat × Nat)} {fs : Es} {ea eb ec eo : E} {pos p apos p2 : Pos} {t1 t2 : T} {x n1 n2 nm y : Str} {i f n : Nat}
/-- the call of such a def, as a value: what it raises goes to W -/
theorem callR_ok {W : WX} {σ : L2.St} {pn : List (Nat × V)} {δ : Env} {Fr : List Res} {vs : List V} {ds : List D} {H : Hp} {ct : Ct} {R : Out → Prop} {k : D → Env → Prop} {Q : VK} (hl : vs.length = ds.length) (hn : ∀ ds r o, ct ds r o → ds.length = n) (s : Sim X.K pn σ δ (vals vs ds ++ Fr) H)
    (h : callR x n1 n2 ct ds δ R k) (hq : ∀ d v H', k d δ → Sim X.K pn σ δ (.val v d :: Fr) H' → Q v H')
    (hx : ∀ x C fs d δ' σ' H', R (.xc x fs δ') → X.mg x = some (.ref C) → Sim X.K pn σ' δ' (.cell d (.xd fs) :: Fr) H' → W (.ref C) (some d) σ' H') :
    spR X.K X.mg x n1 n2 n ct vs H Q (L2.WE W σ) := by
  obtain ⟨r, o, hc, h⟩ := h
  refine ⟨ds, _, r, o, hl.trans (hn _ _ _ hc), hl, s.front2, hc, fun e v H' g => ?_, fun v1 v2 C e er hm d H' g => ?_⟩
  · subst e
    exact hq r v H' h (s.ofc g)
  · cases o with
    | none => exact absurd rfl e
    | some z =>
      obtain ⟨w1, w2, e1, hR⟩ := h
      rw [er] at e1
      cases e1
      exact hx _ _ _ _ _ _ _ hR hm (s.ofc g)
variable {N : List Str} {sc : Scope} {BL : List Str} {FT : List FnI} {av : List Nat}
theorem V_setR {pc : Pos} (C : CxD X N sc BL FT av Γ) (i f : Nat) (F : FnRX X nm n x n1 n2 (Γ f)) (h : stC N sc mu i y = true) (hg : Gl X nm) (hdb : (nm == ("__debug__" : Str)) = false) (hs : (e :: es).all noStar = true) (ha : EA X Γ mu bs (e :: es) fs) :
    ES X Γ mu (.Assign [.Name y p] (.Call (.Name nm p2) (e :: es) [] pc) pos) (.setR x n1 n2 i f fs) := fun W tk => by
  obtain ⟨k, fa, fd, ps, F1, hr, hm, hk, hb⟩ := F.ex
  have hs' := hs
  simp only [List.all_cons, Bool.and_eq_true] at hs'
  refine PSmono (ps_set C.ndX (C.st h).1 (C.st h).2.1 (pe_callS F1 hr hg hm hk hb (fun σ => passAt tk σ) ha hdb (noStar_star hs'.1) (noStar_any hs'.2)) (noLc_swap rfl) (.inl (C.fn y))) fun Dn σ H ⟨pn, δ, Fr, R, hp, s, hw, q1, q2, q3, q4, q5⟩ => ?_
  exact ⟨pn, δ, Fr, _, hp, s, hw, fun ds δ1 vs H1 hr hl hb s1 => callR_ok hl F.len s1 hr (fun d v H' hk s' => q1 _ _ _ hk (s'.put' (pn_ne hp (C.st h).2.2))) q5⟩
theorem V_exR {pc : Pos} (C : CxD X N sc BL FT av Γ) (f : Nat) (F : FnRX X nm n x n1 n2 (Γ f)) (hg : Gl X nm) (hdb : (nm == ("__debug__" : Str)) = false) (hs : (e :: es).all noStar = true) (ha : EA X Γ mu bs (e :: es) fs) :
    ES X Γ mu (.Expr (.Call (.Name nm p2) (e :: es) [] pc) pos) (.exR x n1 n2 f fs) := fun W tk => by
  obtain ⟨k, fa, fd, ps, F1, hr, hm, hk, hb⟩ := F.ex
  have hs' := hs
  simp only [List.all_cons, Bool.and_eq_true] at hs'
  refine PSmono (ps_expr (pe_callS F1 hr hg hm hk hb (fun σ => passAt tk σ) ha hdb (noStar_star hs'.1) (noStar_any hs'.2)) (noLc_swap rfl)) fun Dn σ H ⟨pn, δ, Fr, R, hp, s, hw, q1, q2, q3, q4, q5⟩ => ?_
  exact ⟨pn, δ, Fr, _, hp, s, hw, fun ds δ1 vs H1 hr hl hb s1 => callR_ok hl F.len s1 hr (fun d v H' hk s' => q1 _ _ _ hk s'.drop) q5⟩
theorem V_appR {pc pm pa : Pos} (C : CxD X N sc BL FT av Γ) (i f : Nat) (F : FnRX X nm n x n1 n2 (Γ f)) (h : nmC N sc i y = true) (hg : Gl X nm) (hdb : (nm == ("__debug__" : Str)) = false) (hf : Few X [.Call (.Name nm p2) (e :: es) [] pc] pm) (hl : (pa.endLine == pm.line) = true) (hs : (e :: es).all noStar = true) (ha : EA X Γ mu bs (e :: es) fs) :
    ES X Γ mu (.Expr (.Call (.Attribute (.Name y p) "append" pa) [.Call (.Name nm p2) (e :: es) [] pc] [] pm) pos) (.appR x n1 n2 i f fs) := fun W tk => by
  obtain ⟨k, fa, fd, ps, F1, hr, hm, hk, hb⟩ := F.ex
  have hs' := hs
  simp only [List.all_cons, Bool.and_eq_true] at hs'
  have hca : PA X [.Call (.Name nm p2) (e :: es) [] pc] _ := pa_cons (pe_callS F1 hr hg hm hk hb (fun σ => passAt tk σ) ha hdb (noStar_star hs'.1) (noStar_any hs'.2)) pa_nil (noStar_star rfl)
  refine PSmono (ps_expr (pe_bm PySem.F.plainAttrs_list PySem.F.slot_list_append PySem.F.type_list_append mt_append (pe_var (C.nm h).ix (C.nm h).vis (C.nm h).db (C.nm h).cd) hca (noLc_base fun _ _ _ z => by cases z) hf.few hl (noStar_star rfl) (noStar_any rfl)) (noLc_swap rfl)) fun Dn σ H ⟨pn, δ, Fr, R, hp, s, ⟨⟨o, ys, e0⟩, hw⟩, q1, q2, q3, q4, q5⟩ => ?_
  obtain ⟨w, e1, i1⟩ := s.get e0
  obtain ⟨l, us, rfl, hl, rd, _⟩ := i1.nd
  refine ⟨_, e1, .inl ⟨rfl, us, rd⟩, pn, δ, Fr, _, hp, s, hw, fun ds δ1 vs H1 hr hl hb s1 => callR_ok hl F.len s1 hr (fun d v H' ⟨xs, e2, hz, hk⟩ s2 => ?_) q5⟩
  obtain ⟨w', e3, s3⟩ := s2.out e2
  obtain rfl : w' = .ref l := by rw [e1] at e3; exact (Option.some.inj (Option.some.inj e3)).symm
  show rAppend (V.ref l) [v] H' (fun x H1 => Dn.nx σ H1)
  refine does_append _ xs [d] [v] H' (Fr ++ envR σ (δ1.set i none)) (fun ds' rr => ds' = xs ++ [d]) _ rfl (by simpa using Sim.front2 (A := _ :: vals [v] [d]) s3) ⟨hz, rfl⟩ fun H2 x ds' rr hr2 g => ?_
  subst hr2
  have s4 : Sim X.K pn σ (δ1.set i none) (.val (.ref l) (.nd .lst true (xs ++ [d])) :: .val x rr :: Fr) H2 := s3.ofc (Fr := .val x rr :: Fr) (g.perm (.swap ..))
  have s5 := s4.back e3
  rw [List.set_set] at s5
  exact q1 _ _ _ hk s5.drop
/-- such a def with defaults behind what is written -/
structure FnRXD (X : Cx) (nm : Str) (n : Nat) (x n1 n2 : Str) (ct : Ct) : Prop where
  len : ∀ ds r o, ct ds r o → ds.length = n
  ex : ∃ k f fd ps m ct3 dvs us, FnOk X.prog X.w X.K X.mg X.base (L2.CX X.prog X.w) k f fd ps (spR X.K X.mg x n1 n2 m ct3) ∧ Room k X.A ∧ X.mg nm = some (.ref f) ∧ PySem.W.keepIn X.K (.ref f) = true ∧ Binds X.K fd ps us ∧ Vals dvs us ∧ m = n + dvs.length ∧ ∀ ds r o, ct ds r o → ct3 (ds ++ dvs.map D.at) r o
theorem V_exRD {pc : Pos} (C : CxD X N sc BL FT av Γ) (f : Nat) (F : FnRXD X nm n x n1 n2 (Γ f)) (hg : Gl X nm) (hdb : (nm == ("__debug__" : Str)) = false) (hs : (e :: es).all noStar = true) (ha : EA X Γ mu bs (e :: es) fs) :
    ES X Γ mu (.Expr (.Call (.Name nm p2) (e :: es) [] pc) pos) (.exR x n1 n2 f fs) := fun W tk => by
  obtain ⟨k, fa, fd, ps, m, ct3, dvs, us, F1, hr, hm, hk, hb, hd, hmn, h3⟩ := F.ex
  have hs' := hs
  simp only [List.all_cons, Bool.and_eq_true] at hs'
  refine PSmono (ps_expr (pe_callSD F1 hr hg hm hk hb hd (fun σ => passAt tk σ) ha hdb (noStar_star hs'.1) (noStar_any hs'.2)) (noLc_swap rfl)) fun Dn σ H ⟨pn, δ, Fr, R, hp, s, hw, q1, q2, q3, q4, q5⟩ => ?_
  refine ⟨pn, δ, Fr, _, hp, s, hw, fun ds δ1 vs H1 hr hl hb s1 => ?_⟩
  obtain ⟨r, o, hc, hh⟩ := hr
  have hlen : ds.length = n := F.len _ _ _ hc
  have s2 : Sim X.K pn σ δ1 (vals (vs ++ dvs) (ds ++ dvs.map D.at) ++ Fr) H1 := by
    have e : vals (vs ++ dvs) (ds ++ dvs.map D.at) = vals vs ds ++ vals dvs (dvs.map D.at) := by
      unfold vals
      exact List.zipWith_append hl
    rw [e]
    have g := good_ats (s1.front2 (Fr := Fr)) dvs
    have g2 : Good X.K H1 ((vals vs ds ++ vals dvs (dvs.map D.at)) ++ (Fr ++ envR σ δ1)) := by
      refine g.perm ?_
      rw [← List.append_assoc, ← List.append_assoc, ← List.append_assoc]
      exact ((List.perm_append_comm (l₁ := vals dvs (dvs.map D.at)) (l₂ := vals vs ds)).append_right Fr).append_right _
    exact s1.ofA g2
  refine callR_ok (n := m) (R := R) (k := fun _ δ2 => R (.nx δ2)) (ct := fun ds' r o => ct3 ds' r o ∧ ds'.length = m) (by simp [hl]) (fun _ _ _ h => h.2) s2 ⟨r, o, ⟨h3 _ _ _ hc, by rw [List.length_append, List.length_map, hlen, hmn]⟩, hh⟩ (fun d v H' hk s' => q1 _ _ _ hk s'.drop) q5 |> fun z => ?_
  obtain ⟨ds', Fr', r', o', a1, a2, a3, a4, a5, a6⟩ := z
  exact ⟨ds', Fr', r', o', a1, a2, a3, a4.1, a5, a6⟩
end
/-- how such a def ends -/
def retR (x n1 n2 : Str) (r : D) (o : Option D) : Out → Prop
  | .rt d _ => o = none ∧ d = r
  | .nx _ => o = none ∧ D.at .non = r
  | .xc x' fs _ => x' = x ∧ o ≠ none ∧ ∃ v1 v2, r = .nd .tup false [.at v1, .at v2] ∧ fs = [(n2, v2), (n1, v1)]
  | _ => False
section
variable {P : Program} {w : World} {K : PySem.W.Frag} {mg : Str → Option Value} {base : Heap}
/-- the def's body: what the rule for a def that lets an exception out asks for -/
theorem bodyR {qual : Str} {scope : Scope} {f : Addr} {N ps : List Str} {k : Nat} {BL : List Str} {FT : List FnI} {av : List Nat} {Γ : Nat → Ct} {ss : Ss} {ct : Ct} {x n1 n2 : Str} {body : List Stmt} {cdv : Value} {A : Around} {outer : List PySem.Env} {s : Shared} {H : Hp} {vs : List V} {Q : VK} {E : XK}
    (S : FnScope N ps scope) (bl : ∀ x ∈ BL, mg x = none) (fns : ∀ i e, i ∈ av → FT[i]? = some e → ModF P w K mg base k e (Γ i))
    (der : ∀ X, X.mg = mg → X.K = K → X.w = w → X.prog = P → X.base = base → Room k X.A → CxD X N scope BL FT av Γ → ESs X Γ [] body ss)
    (law : ∀ ds r o, ct ds r o → ds.length = ps.length ∧ wpSs Γ ss (startD N.length ds) (retR x n1 n2 r o))
    (hr : Room k (A.deeper (envOfC qual scope s.heap.objs.size f cdv))) (hsp : spR K mg x n1 n2 ps.length ct vs H Q E) :
    ∃ t, PSs (cxOf (L2.CX P w) P w K mg base N qual scope f cdv A outer s H E) body t ∧ t { nx := fun _ H' => Q .non H', rt := Q } (L2.start N vs) H := by
  obtain ⟨ds, Fr, r, o, hln, hl, g, hc, q1, q2⟩ := hsp
  obtain ⟨hdl, hw⟩ := law ds r o hc
  have C : CxD (cxOf (L2.CX P w) P w K mg base N qual scope f cdv A outer s H E) N scope BL FT av Γ := by
    refine ⟨⟨rfl, S.nd, rfl, S.kind, rfl, ?_, bl, fun i e h1 h2 => (fns i e h1 h2).fnx hr, ?_⟩, fun _ => rfl, passes_of rfl⟩
    · have := hr.un
      show _ + 64 < cLine
      exact Nat.lt_of_le_of_lt (show (A.deeper (envOfC qual scope s.heap.objs.size f cdv)).units + 64 ≤ _ by omega) this
    · have := hr.un
      show _ + 65 < cLine
      exact Nat.lt_of_le_of_lt (show (A.deeper (envOfC qual scope s.heap.objs.size f cdv)).units + 65 ≤ _ by omega) this
  refine ⟨_, der _ rfl rfl rfl rfl rfl hr C (fun cls d _ H => E cls d H) (takes_of rfl rfl rfl rfl), [], startD N.length ds, Fr, retR x n1 n2 r o, fun p hp => by simp at hp, sim_start (mp := none) hl g, hw, ?_, ?_, ?_, ?_, ?_⟩
  · exact fun δ' σ' H' ⟨e, e2⟩ s' => q1 e .non H' (Good.left (L' := envR σ' δ') (by rw [← e2]; exact s'.mkat.front))
  · exact fun δ' σ' H' h => h.elim
  · exact fun δ' σ' H' h => h.elim
  · exact fun d δ' v σ' H' ⟨e, e2⟩ s' => q1 e v H' (Good.left (L' := envR σ' δ') (by rw [← e2]; exact s'.front))
  · rintro x' C fs d δ' σ' H' ⟨rfl, e, v1, v2, e2, rfl⟩ hm s'
    exact q2 v1 v2 C e e2 hm d H' (Good.left (L' := envR σ' δ') s'.front)
theorem def_okR {x qual : Str} {st : Stmt} {f : Addr} {fd : FuncData} {N ps : List Str} {k : Nat} {BL : List Str} {FT : List FnI} {av : List Nat} {Γ : Nat → Ct} {ss : Ss} {ct : Ct} {cx n1 n2 : Str} (F : Fun K x qual st f fd) (S : FnScope N ps (defScope st)) (bl : ∀ x ∈ BL, mg x = none)
    (fns : ∀ i e, i ∈ av → FT[i]? = some e → ModF P w K mg base k e (Γ i)) (der : ∀ X, X.mg = mg → X.K = K → X.w = w → X.prog = P → X.base = base → Room k X.A → CxD X N (defScope st) BL FT av Γ → ESs X Γ [] (defBody st) ss)
    (law : ∀ ds r o, ct ds r o → ds.length = ps.length ∧ wpSs Γ ss (startD N.length ds) (retR cx n1 n2 r o)) : FnOk P w K mg base (L2.CX P w) (k + 1) f fd ps (spR K mg cx n1 n2 ps.length ct) :=
  F.okX S (fun vs H Q E h => by obtain ⟨_, _, _, _, h, _⟩ := h; exact h) fun cdv A outer s H vs Q E hr hsp => bodyR S bl fns der law hr hsp
theorem def_okRD {x qual : Str} {params : Arguments} {body : List Stmt} {scope : Scope} {dvs : List V} {kws : List (Str × V)} {f : Addr} {fd : FuncData} {N ps : List Str} {k : Nat} {BL : List Str} {FT : List FnI} {av : List Nat} {Γ : Nat → Ct} {ss : Ss} {ct : Ct} {cx n1 n2 : Str} (F : FunD K x qual params body scope dvs kws f fd) (S : FnScope N ps scope) (bl : ∀ x ∈ BL, mg x = none)
    (fns : ∀ i e, i ∈ av → FT[i]? = some e → ModF P w K mg base k e (Γ i)) (der : ∀ X, X.mg = mg → X.K = K → X.w = w → X.prog = P → X.base = base → Room k X.A → CxD X N scope BL FT av Γ → ESs X Γ [] body ss)
    (law : ∀ ds r o, ct ds r o → ds.length = ps.length ∧ wpSs Γ ss (startD N.length ds) (retR cx n1 n2 r o)) : FnOk P w K mg base (L2.CX P w) (k + 1) f fd ps (spR K mg cx n1 n2 ps.length ct) :=
  F.ok S (fun vs H Q E h => by obtain ⟨_, _, _, _, h, _⟩ := h; exact h) fun cdv A outer s H vs Q E hr hsp => bodyR S bl fns der law hr hsp
end
end Z
set_option Elab.async false
set_option linter.all false
set_option maxRecDepth 100000
set_option autoImplicit false
namespace ZX
open PySem PySem.W PySem.Calls PyProof.Rows
/-! ## BadLine: an own exception whose __init__ says super().__init__(line, word) and keeps both -/
def xArgs (p1 p2 p3 : Pos) : Arguments := { posonlyargs := [], args := [⟨"self", none, p1⟩, ⟨"line", none, p2⟩, ⟨"word", none, p3⟩], vararg := none, kwonlyargs := [], kw_defaults := [], kwarg := none, defaults := [] }
def xSup (q1 q2 q3 q4 q5 q6 : Pos) : Expr := .Call (.Attribute (.Call (.Name "super" q1) [] [] q2) "__init__" q3) [.Name "line" q4, .Name "word" q5] [] q6
def xBody (q1 q2 q3 q4 q5 q6 q7 a1 a2 a3 a4 b1 b2 b3 b4 : Pos) : List Stmt := [.Expr (xSup q1 q2 q3 q4 q5 q6) q7, .Assign [.Attribute (.Name "self" a1) "line" a2] (.Name "line" a3) a4, .Assign [.Attribute (.Name "self" b1) "word" b2] (.Name "word" b3) b4]
def xScope : Scope := { kind := .function, names := [(PySem.Str.ofString "self", .local), (PySem.Str.ofString "line", .local), (PySem.Str.ofString "word", .local), (PySem.Str.ofString "__class__", .free), (PySem.Str.ofString "super", .globalImplicit)], isGenerator := false, isCoroutine := false, more := [] }
theorem x_cell : ∀ x ∈ xScope.names, x.2 ≠ .cell := by decide
/-- what the written part says of the class at C, of its __init__ at fI, of the cell that holds the class, of the text's own file -/
structure XTxt (P : Program) (K : Frag) (mg : Str → Option Value) (C fI : Addr) : Prop where
  gC : mg "BadLine" = some (.ref C)
  cls : ∃ nm q N bs bm sn sub ab col dd k0 k1 k2 k3 k5, K.lookup C = some (excClassObj nm q C N bs bm true sn sub ab col dd k0 k1 k2 k3 k5 "ValueError.__new__") ∧ HandSPX.refsVE bm = true
  sa : findIn K (.ref C) "__setattr__" = some (some (.builtin "object.__setattr__"))
  ga : findIn K (.ref C) "__getattribute__" = some (some (.builtin "BaseException.__getattribute__"))
  gg : findIn K (.ref C) "__getattr__" = some none
  hdC : hasDictIn K C = true
  n1 : findIn K (.ref C) "line" = some none
  n2 : findIn K (.ref C) "word" = some none
  iC : findIn K (.ref C) "__init__" = some (some (.ref fI))
  tC : typeIn K (.ref fI) = some (.type "function")
  kC : keepIn K (.ref C) = true
  exC : subIn K (.ref C) (.type "BaseException") = some true
  veC : subIn K (.ref C) (.type "ValueError") = some true
  tyC : typeIn K (.ref C) = some (.type "type")
  sup : ks_superIn K C C "__init__" = some (some (.builtin "ValueError.__init__"))
  third : nsIn K cStatics "thirdparty.any" = some none
  noS : mg "super" = none
  slf : subIn K (.ref C) (.ref C) = some true
  fn : ∃ (oc : Value) (od : Option Addr) (doc pm : Value) (an : Option Addr) (ct : Value) (osl : Array (Option Value)) (cc cda : Addr) (p1 p2 p3 q1 q2 q3 q4 q5 q6 q7 a1 a2 a3 a4 b1 b2 b3 b4 : Pos) (e1 e2 : Value) (d1 d2 : Option Addr) (s1 s2 : Array (Option Value)) (fs : Array Value) (file : Str) (tf : Tok),
    K.lookup fI = some ⟨oc, od, .func (ksFn "__init__" "BadLine.__init__" (xArgs p1 p2 p3) (xBody q1 q2 q3 q4 q5 q6 q7 a1 a2 a3 a4 b1 b2 b3 b4) xScope .none .none doc pm an (.ref cda) ct cc), osl⟩ ∧ codeIn K (.ref cda) "BadLine.__init__" = true ∧
    K.lookup cda = some ⟨e1, d1, .fields fs, s1⟩ ∧ fs[2]? = some (.str file tf) ∧ ((P.main.file : Str) == file) = true ∧ K.lookup cc = some ⟨e2, d2, .cell (some (.ref C)), s2⟩ ∧ (q3.endLine == q6.line) = true
  top : (P.main.scope.names.lookup ("super" : Str)).isSome = false
/-- what __init__ leaves of a fresh exception at x -/
structure XEnd (h h' : Heap) (x C : Addr) (v1 v2 : Value) : Prop where
  keep : ∀ b o, b ≠ x → h.get? b = some o → h'.get? b = some o
  made : ∃ dx t1, h'.get? x = some { cls := .ref C, dict := some dx, data := .fields #[.ref t1, .none, .none, .none, .bool false, .none] } ∧ h.objs.size ≤ dx ∧ dx ≠ x ∧ h'.Ns1 dx (fun y => if y = "word" then some v2 else if y = "line" then some v1 else none)
section
variable {P : Program} {w : World} {A : Around} {E : Value → Shared → Prop} {R : Result → Shared → Prop} {s : Shared} {K : Frag} {mg : Str → Option Value} {C fI : Addr}
/-- a bound ValueError.__init__ called: the args are laid anew -/
theorem x_bound {h : Heap} {g : Array GenState} {dr : Drawn} {tk : Nat} {os : OsState} {u x t0 : Addr} {us : List Value} {Q : Value → Shared → Prop} {nm q : Str} {N : Addr} {bs bm : List Value} {sn : List Str} {sub : List Value} {ab : Bool} {col : Option Bool} {dd : Option Addr} {k0 k1 k2 k3 k5 : Option Value}
    (hC : h.get? C = some (excClassObj nm q C N bs bm true sn sub ab col dd k0 k1 k2 k3 k5 "ValueError.__new__")) (hx : h.get? x = some (HandSPX.excO C t0)) (hu : h.get? u = some (kxs_mw "ValueError.__init__" x)) (hl : us.length ≤ sizeLine)
    (hq : ∀ h', (∀ b o, b ≠ x → h.get? b = some o → h'.get? b = some o) → h'.get? x = some (HandSPX.excO C h.objs.size) → Q .none ⟨h', g, dr, tk, os⟩) :
    wpAny (model P w) A (call (.ref u) us) Q E ⟨h, g, dr, tk, os⟩ := by
  refine wpAny_call (codeAny_of_tree ?_)
  show wpAny _ A.in1 (callAny (.ref u) ⟨us, []⟩) _ _ _
  simp only [callAny]
  refine wpAny_bind (wpAny_load hu ?_)
  simp only [kxs_mw]
  refine KFB.if_so (by decide) ?_
  refine wpAny_bind (check_bound_init F.excBase_ValueError.toExcCallFacts hC hx rfl ?_)
  refine wpAny_bind (wpAny_pure (wpAny_pure ⟨plainId_quiet F.excBase_ValueError.init.plain _, codeAny_builtin F.excBase_ValueError.initEntry ?_⟩))
  exact exc_init_tree (cls := .ref C) (t0 := t0) (dv := none) (c2 := .none) (c3 := .none) (b4 := .bool false) hx hl fun h' k e _ => hq h' k e
abbrev xEnv (L fI cda cc : Addr) : PySem.Env := ksEnv "BadLine.__init__" xScope L fI (.ref cda) cc
theorem x_ld {M : Model} {A : Around} {E : Value → Shared → Prop} {s : Shared} {L fI cda cc : Addr} {m : Str → Option Value} {y : Str} {pos : Pos} {v : Value} {Q : Value → Shared → Prop} (hn : s.heap.Ns L m) (hv : m y = some v) (h : Q v s)
    (hl : (xEnv L fI cda cc).kindOf y = some .local := by rfl) (hd : (y == ("__debug__" : Str)) = false := by decide) : wpAny M A (eval (.Name y pos) (xEnv L fI cda cc)) Q E s := wpAny_Name (wpAny_loadName_local rfl hl hn hv h) hd
theorem x_call {L fI cda cc : Addr} {q1 q2 q3 q4 q5 q6 : Pos} (h : (q3.endLine == q6.line) = true) : eval (xSup q1 q2 q3 q4 q5 q6) (xEnv L fI cda cc) = (do
      let ov ← attributeBase (.Call (.Name "super" q1) [] [] q2) "__init__" (xEnv L fI cda cc) (eval (.Call (.Name "super" q1) [] [] q2) (xEnv L fI cda cc))
      standAt q3.atName
      let (f, first) ← holding [ov] (getMethod ov "__init__" (do return (← importBound (.Call (.Name "super" q1) [] [] q2) (xEnv L fI cda cc)).getD true))
      callWith q6 f first (backTo q6 (starEach [.Name "line" q4, .Name "word" q5] (xEnv L fI cda cc))) []) := by
  show (do
    let ov ← attributeBase (.Call (.Name "super" q1) [] [] q2) "__init__" (xEnv L fI cda cc) (eval (.Call (.Name "super" q1) [] [] q2) (xEnv L fI cda cc))
    standAt q3.atName
    methodCall (.Call (.Name "super" q1) [] [] q2) "__init__" q3 q6 (xEnv L fI cda cc) ov 2 (backTo q6 (starEach [.Name "line" q4, .Name "word" q5] (xEnv L fI cda cc))) []) = _
  unfold methodCall methodCallPos
  simp only [h]
  rfl
theorem x_init (T : XTxt P K mg C fI) {x t0 : Addr} {v1 v2 : Value} (X : K.In s.heap) (hlim : s.heap.NoLimit) (hg : s.heap.Ns mainGlobals mg) (hb : ∃ mb, s.heap.Ns builtinsNs mb ∧ mb "super" = some (.type "super")) (hx : s.heap.get? x = some (HandSPX.excO C t0)) (hnx : K.lookup x = none) (hroom : A.depth < recursionLimit)
    (hq : ∀ h' tk, XEnd s.heap h' x C v1 v2 → R (.ok (.ret .none)) { s with heap := h', toks := tk }) :
    codeAny (model P w) A (.call (.ref fI) ⟨[.ref x, v1, v2], []⟩) R s := by
  obtain ⟨oc, od, doc, pm, an, ct, osl, cc, cda, p1, p2, p3, q1, q2, q3, q4, q5, q6, q7, a1, a2, a3, a4, b1, b2, b3, b4, e1, e2, d1, d2, s1, s2, fs, file, tf, hf, hcd, hco, hfs, hfl, hcc, hln⟩ := T.fn
  obtain ⟨nm, q, N, bs, bm, sn, sub, ab, col, dd, k0, k1, k2, k3, k5, hC, hbm⟩ := T.cls
  obtain ⟨mb, hmb, hsb⟩ := hb
  have hcl : clsIn K C = some { name := nm, bases := bs, mro := .ref C :: bm, ns := N, qualname := q, hasDict := true, slotNames := sn, subclasses := sub, abstract := ab, collection := col, hasDel := false } := by unfold clsIn; rw [hC] <;> rfl
  refine ks_codeAny_call_defAt (fd := ksFn "__init__" "BadLine.__init__" (xArgs p1 p2 p3) (xBody q1 q2 q3 q4 q5 q6 q7 a1 a2 a3 a4 b1 b2 b3 b4) xScope .none .none doc pm an (.ref cda) ct cc) (binds := [("self", .ref x), ("line", v1), ("word", v2)])
    hroom (X _ _ hf) rfl hlim (codeRec_of X hcd) rfl (BindsTo.of_eq (by first | rfl | with_unfolding_all rfl)) x_cell (locs rfl) (fun h₁ hn hk => ?_)
  obtain ⟨hp, gs, dr, tk, os⟩ := s
  have X1 : K.In h₁ := X.keeps hk
  show _root_.PySem.wpAt _ _ (.func _ (xEnv hp.objs.size fI cda cc)) (execs _ (xEnv hp.objs.size fI cda cc)) _ _ _
  refine ks_wpAt_execs_cons (ks_wpAt_Expr_any (ks_wpAt_MethodCall (pl := _) ?_ (x_call hln)))
  refine ks_wpAt_super_base (env := xEnv hp.objs.size fI cda cc) rfl rfl rfl rfl (X1 _ _ hf) rfl rfl rfl (X1 _ _ hco) rfl hfs hfl T.top ?_
  refine ks_loadName_global rfl rfl (loadGlobal_builtin (env := xEnv hp.objs.size fI cda cc) (hg.keeps hk) T.noS (hmb.keeps hk) hsb ⟨rfl, ?_⟩)
  refine wpAny_loadName_free rfl rfl rfl ⟨_, X1 _ _ hcc, rfl⟩ ?_
  refine wpAny_loadName_local rfl rfl hn rfl ?_
  refine ks_wpAny_isType_cls (X1 _ _ hC) rfl ⟨rfl, ?_⟩
  have hx1 : h₁.get? x = some (HandSPX.excO C t0) := hk _ _ hx
  have hsub : Looks (model P w) h₁ (isSubtype (.ref C) (.ref C)) true := looks_subIn X1 T.slf
  refine ks_wpAny_call_super (X1 _ _ hC) rfl hx1 rfl (fun c e => by cases e) hsub (fun h2 e2 k2 => ?_)
  have X2 : K.In h2 := X1.keeps k2
  have hx2 := k2 _ _ hx1
  have hxC : x ≠ C := fun z => by rw [z, hC] at hnx; cases hnx
  have hI : Looks (model P w) h2 (isInstance (.ref x) (.type "ValueError")) true := Looks.andThen (fun A Q E s k q => wpAny_typeOf_ref (k _ _ hx2) q) (looks_subIn X2 T.veC)
  have hsup : alongIn K "__init__" (((.ref C :: bm : List Value).dropWhile (· != .ref C)).drop 1) = some (some (.builtin "ValueError.__init__")) := by
    have := T.sup
    unfold ks_superIn at this
    rw [hcl] at this
    exact this
  refine kxs_getMethod kxs_ValueError e2 (looks_opaque X2 T.third) (l₀ := .ref C :: bm) (fun A Q E s k q => wpAny_bind ((looks_clsIn X2 hcl) A _ E s k (wpAny_pure q))) rfl X2 hsup hI hxC (by decide) ?_
  have k3 : ∀ b o, h2.get? b = some o → (h2.push (kxs_mw "ValueError.__init__" x)).get? b = some o := fun b o e => Heap.get?_push_of_some _ e
  have hu : (h2.push (kxs_mw "ValueError.__init__" x)).get? h2.objs.size = some (kxs_mw "ValueError.__init__" x) := Heap.get?_push_at rfl rfl
  have n3 := ((hn.keeps k2).keeps k3)
  refine kxs_callWith (i := "ValueError.__init__") (x := x) rfl (evalArgs_plain (spliced_cons (x_ld n3 rfl (spliced_cons (x_ld n3 rfl (spliced_nil ⟨hu, ?_⟩))))))
  have hC3 := (X2.keeps k3) _ _ hC
  refine x_bound hC3 (k3 _ _ hx2) hu (by rw [sizeLine_eq]; simp) fun h4 k4 e4 => ?_
  have X4 : K.In h4 := fun a o e => k4 a o (fun z => by rw [z, hnx] at e; cases e) (X2.keeps k3 a o e)
  have hxL : hp.objs.size ≠ x := Nat.ne_of_gt (Heap.lt_size hx)
  have n4 : h4.Ns hp.objs.size (fun y => List.lookup y [("word", v2), ("line", v1), ("self", .ref x)]) := n3.at fun o e => k4 _ _ hxL e
  refine wpAt_of_wpAny ?_
  refine wpAny_execs_cons (plainObj_wpAny_Assign_Attribute (x_ld n4 rfl (x_ld n4 rfl ?_)))
  refine set_plain X4 (ox := HandSPX.excO C (h2.push (kxs_mw "ValueError.__init__" x)).objs.size) (od := none) ⟨e4, rfl, rfl, trivial⟩ T.sa ?_
  refine HandSPX.exc_osa X4 e4 hcl (show HandSPX.refsVE (.ref C :: bm) = true from hbm) rfl T.n1 (fun h5 tk5 dx k5 dn dne hx5 hn5 => ?_)
  show wpAny _ _ (execs _ _) _ _ _
  have hz : hp.objs.size < h4.objs.size := n4.lt
  have X5 : K.In h5 := fun a o e => k5 a o (fun z => by rw [z, hnx] at e; cases e) (X4 a o e)
  have n5 : h5.Ns hp.objs.size (fun y => List.lookup y [("word", v2), ("line", v1), ("self", .ref x)]) := n4.at fun o e => k5 _ _ hxL e
  obtain ⟨oD, _, _, hoD, _, _⟩ := hn5.count (Within.cons "line" v1 Within.nil)
  refine wpAny_execs_cons (plainObj_wpAny_Assign_Attribute (x_ld n5 rfl (x_ld n5 rfl ?_)))
  refine set_plain X5 (ox := { cls := .ref C, dict := some dx, data := .fields #[.ref (h2.push (kxs_mw "ValueError.__init__" x)).objs.size, .none, .none, .none, .bool false, .none] }) (od := some oD) ⟨hx5, rfl, rfl, hoD⟩ T.sa ?_
  refine OEX.osa_old X5 hx5 hn5 (Within.cons "line" v1 Within.nil) (by decide) hcl (show HandSPX.refsVE (.ref C :: bm) = true from hbm) rfl T.n2 (fun h6 tk6 k6 hn6 => ?_)
  show wpAny _ _ (execs _ _) _ _ _
  have old : ∀ b o, hp.get? b = some o → h₁.get? b = some o := hk
  refine wpAny_execs_nil (hq h6 _ ⟨fun b o hb e => ?_, dx, _, k6 _ _ (Ne.symm dne) hx5, ?_, dne, hn6⟩)
  · have y : h4.get? b = some o := k4 _ _ hb (k3 _ _ (k2 _ _ (hk b o e)))
    exact k6 _ _ (Nat.ne_of_lt (Nat.lt_of_lt_of_le (Heap.lt_size y) dn)) (k5 _ _ hb y)
  · exact Nat.le_of_lt (Nat.lt_of_lt_of_le hz dn)
/-- a made BadLine -/
structure XMade (h h' : Heap) (e C d : Addr) (v1 v2 : Value) : Prop where
  keep : ∀ b o, h.get? b = some o → h'.get? b = some o
  new : h.objs.size ≤ e
  obj : ∃ t1, h'.get? e = some { cls := .ref C, dict := some d, data := .fields #[.ref t1, .none, .none, .none, .bool false, .none] }
  big : h.objs.size ≤ d
  dne : d ≠ e
  ns : h'.Ns1 d (fun y => if y = "word" then some v2 else if y = "line" then some v1 else none)
theorem x_made (T : XTxt P K mg C fI) {v1 v2 : Value} (X : K.In s.heap) (hlim : s.heap.NoLimit) (hg : s.heap.Ns mainGlobals mg) (hb : ∃ mb, s.heap.Ns builtinsNs mb ∧ mb "super" = some (.type "super")) (hroom : A.depth + 1 < recursionLimit)
    (hq : ∀ h' tk e d, XMade s.heap h' e C d v1 v2 → R (.ok (.ret (.ref e))) { s with heap := h', toks := tk }) :
    codeAny (model P w) A (.call (.ref C) ⟨[v1, v2], []⟩) R s := by
  obtain ⟨nm, q, N, bs, bm, sn, sub, ab, col, dd, k0, k1, k2, k3, k5, hC, hbm⟩ := T.cls
  obtain ⟨mb, hmb, hsb⟩ := hb
  obtain ⟨hp, g, dr, tk, os⟩ := s
  have up : ∀ b o, hp.get? b = some o → ((hp.push (kdv_tup [v1, v2])).push (HandSPX.excO C hp.objs.size)).get? b = some o := fun b o e => Heap.get?_push_of_some _ (Heap.get?_push_of_some _ e)
  have here : ((hp.push (kdv_tup [v1, v2])).push (HandSPX.excO C hp.objs.size)).get? (hp.objs.size + 1) = some (HandSPX.excO C hp.objs.size) := by heap_get
  have out : K.lookup (hp.objs.size + 1) = none := by
    by_cases e : K.lookup (hp.objs.size + 1) = none
    · exact e
    · obtain ⟨o, e⟩ := Option.ne_none_iff_exists'.mp e
      exact absurd (Nat.lt_of_succ_lt (Heap.lt_size (X _ _ e))) (Nat.lt_irrefl _)
  refine HandSPX.call_own F.excBase_ValueError (fun Y => HandSPX.refsVE_contains Y bm hbm) (X _ _ hC) (looks_findIn X T.iC) (fun self => bind_fn X self T.tC) (by rw [sizeLine_eq]; simp) ?_
  refine x_init (s := ⟨(hp.push (kdv_tup [v1, v2])).push (HandSPX.excO C hp.objs.size), g, dr, tk, os⟩) T (X.keeps up) (hlim.keeps up) (hg.keeps up) ⟨mb, hmb.keeps up, hsb⟩ here out (by show A.depth + 1 < recursionLimit; exact hroom) fun h' tk' M => ?_
  obtain ⟨dx, t1, hx, dn, dne, hns⟩ := M.made
  have big : hp.objs.size ≤ dx := Nat.le_trans (Nat.le_trans (Nat.le_succ _) (Nat.le_succ _)) (by
    have := dn
    simp only [Heap.size_push] at this
    exact this)
  refine ⟨rfl, hq h' tk' (hp.objs.size + 1) dx ⟨fun b o e => M.keep b o ?_ (up b o e), Nat.le_succ _, ⟨t1, hx⟩, big, dne, hns⟩⟩
  exact Nat.ne_of_lt (Nat.lt_succ_of_lt (Heap.lt_size e))
end
end ZX
namespace L2
open PySem PySem.Spec PyProof.Rows
theorem relO_x {v1 v2 : V} {u1 u2 : Value} (r1 : RelV v1 u1) (r2 : RelV v2 u2) (f : Str) : RelO (List.lookup f [(("word" : Str), v2), (("line" : Str), v1)]) (if f = "word" then some u2 else if f = "line" then some u1 else none) := by
  have := relO_put (f := ("word" : Str)) (fs := [(("line" : Str), v1)]) (mA := fun f => if f = "line" then some u1 else none) r2 (relO_put (fs := []) (mA := fun _ => none) r1 fun g => True.intro) f
  exact this
section
variable {X : Cx} {C fI : Addr}
/-- BadLine(e, f) -/
def tMkX (C : Addr) (ta : TA) : St → Hp → XK → Prop := fun σ H Q => ta σ H fun vs H1 => ∃ v1 v2, vs = [v1, v2] ∧ ∀ d, H1 d = none → Q (.ref C) (some d) (upd H1 d (.xd [(("word" : Str), v2), (("line" : Str), v1)]))
theorem pmk_x {a b : Expr} {ta : TA} {p pos : Pos} {k : Nat} (T : ZX.XTxt X.prog X.K X.mg C fI) (hr : Room k X.A) (ha : PA X [a, b] ta) (hg : Gl X "BadLine" := by rfl)
    (he : starEach [a, b] X.env = (false, eval a X.env) :: starEach [b] X.env := by rfl) (hpl : (backTo pos (starEach [b] X.env)).any (·.1) = false := by rfl) :
    PMk X (.Call (.Name "BadLine" p) [a, b] [] pos) (tMkX C ta) := by
  intro pins s σ H Q I h
  refine wpAny_Call_Name_kw (ld_glob I hg T.gC ?_)
  refine PySem.W.callWith_K (h₀ := X.base) I.ok.mod.kin T.kC (thn (ha.run pos pins s σ H _ I h) fun us s1 ⟨vs, H1, I1, r1, v1, v2, ev, q1⟩ => ?_) he hpl
  subst ev
  refine ⟨I1.kIn, ?_⟩
  obtain ⟨u1, us, ra, ru, rfl⟩ : ∃ u1 us', RelV v1 u1 ∧ Vals [v2] us' ∧ us = u1 :: us' := by cases r1 with | cons a b => exact ⟨_, _, a, b, rfl⟩
  obtain ⟨u2, rfl, rb⟩ : ∃ u2, us = [u2] ∧ RelV v2 u2 := by cases ru with | cons a b => cases b; exact ⟨_, rfl, a⟩
  have hlim := I1.nolimit
  obtain ⟨mb, hmb, hsb⟩ := I1.mod.blt
  have hbt : ∃ mb, s1.heap.Ns builtinsNs mb ∧ mb "super" = some (.type "super") := ⟨mb, hmb.keeps I1.bk, (hsb _ (by decide)).trans (by first | rfl | kernel_rfl)⟩
  have hgl : s1.heap.Ns mainGlobals X.mg := I1.mod.glob.keeps I1.bk
  obtain ⟨hp, g, dr, tk, os⟩ := s1
  refine wpAny_call (ZX.x_made T I1.kIn hlim hgl hbt (by have := hr.dp; omega) fun h' tk' e d M => ?_)
  show MkP X pins σ Q (.ref e) ⟨h', g, dr, tk', os⟩
  obtain ⟨t1, hobj⟩ := M.obj
  obtain ⟨G, ga, gb⟩ := restrict h' fun b => decide (b ≠ e)
  have gOff : ∀ b, b ≠ e → G.get? b = h'.get? b := fun b hb => ga b (decide_eq_true hb)
  have gAt : G.get? e = none := gb e (by simp)
  have old : ∀ b o, hp.get? b = some o → G.get? b = some o := fun b o q => by
    rw [gOff b (Nat.ne_of_lt (Nat.lt_of_lt_of_le (Heap.lt_size q) M.new))]
    exact M.keep b o q
  have ob : ObjOk X.prog X.w (upd H1 d (.xd [(("word" : Str), v2), (("line" : Str), v1)])) G d (.xd [(("word" : Str), v2), (("line" : Str), v1)]) := ⟨_, M.ns.at (fun o q => (gOff d M.dne).trans q), fun f => relO_x ra rb f⟩
  have J : Inv X pins σ (upd H1 d (.xd [(("word" : Str), v2), (("line" : Str), v1)])) ⟨G, g, dr, tk', os⟩ := I1.laid (t' := tk') old M.big ob
  refine ⟨e, _, _, ⟨G, g, dr, tk', os⟩, _, .ref C, some d, rfl, J, fun b o q => ?_, gAt, hobj, ⟨rfl, rfl⟩, rfl, rfl, ?_, rfl, I1.bare, raises_own T.exC T.tyC, q1 d (I1.hok.fresh M.big)⟩
  · by_cases hb : b = e
    · subst hb
      have q' : G.get? b = some o := q
      rw [gAt] at q'; cases q'
    · exact (gOff b hb).symm.trans q
  · rw [upd_ne (Ne.symm M.dne)]
    exact I1.hok.fresh M.new
end
end L2
set_option Elab.async false
set_option linter.all false
set_option maxRecDepth 100000
set_option autoImplicit false
namespace L2
open PySem PySem.Spec PyProof.Rows
/-! ## try: .. except C as n: suite, and further clauses that are never asked: what the body raises is of the first one's class -/
/-- the ends of a suite behind which slot i is let go -/
def letGo (i : Nat) (D : Ends) : Ends := { nx := fun σ H => D.nx (σ.set i none) H, rt := D.rt, bk := fun σ H => D.bk (σ.set i none) H, ct := fun σ H => D.ct (σ.set i none) H }
def wFst (K : PySem.W.Frag) (c : Value) (i : Nat) (ts : Addr → Value → Option Addr → TS) (D : Ends) : WX := fun cls d σ H =>
  PySem.W.exmOne K cls c = some true ∧ ∀ a, H a = none → ts a cls d (letGo i D) (σ.set i (some (.ref a))) H
section
variable {X : Cx} {x n : Str} {c : Value} {i : Nat} {body suite : List Stmt} {b₀ : Stmt} {np pos pos' : Pos} {tb : WX → TS} {ts : Addr → Value → Option Addr → TS} {more : List ExceptHandler}
theorem ps_try_fst (hs : X.stack = X.env :: X.outer) (hf : X.env.frame = some X.env.locals) (hN : X.N.Nodup) (hi : X.N[i]? = some n) (hln : X.env.kindOf n = some .local) (hc : Names X x c)
    (hb : ∀ (W : WX) (pn : List (Addr × Obj)) (xe : Value → Shared → Prop), Takes (X.tr pn xe) W → PassesOwn (model X.prog X.w) X.A X.env xe → PSs (X.tr pn xe) body (tb W))
    (hsu : ∀ (a : Addr) (oe : Obj) (cls : Value) (d : Option Addr) (pn : List (Addr × Obj)), Zc cls d oe → (∃ vs, oe.data = .fields vs) → PSs (X.suite a ((a, oe) :: pn)) (b₀ :: suite) (ts a cls d)) :
    PS X (.Try body (.ExceptHandler (some (.Name x np)) (some n) (b₀ :: suite) pos' :: more) [] [] pos) (fun D σ H => tb (wFst X.K c i ts D) D σ H) := by
  constructor
  intro pins s σ H D I hw
  have own := I.ok
  have stk : X.A.frames = some (X.env :: X.outer) := own.frames.trans (by rw [hs])
  let xe' : Value → Shared → Prop := fun e t1 => wpAny (model X.prog X.w) X.A (noteFrame e X.env) (fun _ t2 => wpAny (model X.prog X.w) X.A (setFlight e none) (fun _ t3 =>
    wpAny (model X.prog X.w) X.A (handleBy e X.env (.ExceptHandler (some (.Name x np)) (some n) (b₀ :: suite) pos' :: more)) (SP X pins D) X.xe t3) X.xe t2) X.xe t1
  have caught : Takes (X.tr (X.pn ++ pins) xe') (wFst X.K c i ts D) := by
    rintro u t ⟨a, B, sI, pins2, σ2, H2, cls, d, rfl, J0, nb, up, sky, na, os, ag, hmatch, hgo⟩
    have J := J0.ofTry own
    have sky2 : Sky B (X.env :: X.outer) a (Zc cls d) X.env.locals t.heap := by rw [← hs]; exact sky
    show wpAny (model X.prog X.w) X.A (noteFrame (.ref a) X.env) _ _ t
    refine Sky.land Zc.steady stk hf sky2 fun h3 fl up3 => ?_
    have K3 : Inv X pins σ2 H2 { t with heap := h3 } := J.landed nb fl.1 (up.trans up3) os ag
    obtain ⟨o3, vs3, at3, z3, data3⟩ := fl.there
    have off : a ∉ frs (X.env :: X.outer) := by
      intro hm
      obtain ⟨_, o', e', nf⟩ := fl.2.2.1.mem hm
      exact nf vs3 (by rw [show o' = o3 from Option.some.inj (e'.symm.trans at3)]; exact data3)
    have offL : a ≠ X.env.locals := fun z => off (List.mem_filterMap.mpr ⟨X.env, .head _, by rw [hf, z]⟩)
    have offF : a ∉ X.fs := by
      intro hm
      obtain ⟨e, he, q⟩ := List.mem_filterMap.mp hm
      exact off (List.mem_filterMap.mpr ⟨e, .tail _ he, q⟩)
    have S3 := K3.suite at3 data3 na offL offF
    refine wpAny_handleBy_cons (codeAny_handlers_test ?_) (by intro q; cases q)
    have name : ∀ {Q : Value → Shared → Prop} {E : Value → Shared → Prop}, Q c { t with heap := h3 } → wpAny (model X.prog X.w) (X.A.mark (some (.ref a))) (eval (.Name x np) X.env) Q E { t with heap := h3 } := by
      intro Q E q
      rcases hc with ⟨g1, g2, m | ⟨m, v, nn⟩⟩
      · exact ld_glob (X := X.suite a ((a, o3) :: (X.pn ++ pins))) S3 g1 m q g2
      · exact ld_blt (X := X.suite a ((a, o3) :: (X.pn ++ pins))) S3 g1 m v q nn g2
    have kind : PySem.W.Looks (model X.prog X.w) h3 (typeOf (.ref a)) cls := fun A Q E s k q => wpAny_typeOf_ref (k _ _ at3) (by rw [z3.1]; exact q)
    refine name ((PySem.W.exm_one (M := model X.prog X.w) K3.kIn kind hmatch).here ?_)
    refine codeAny_handlers_suite_as ?_
    refine HandSPX.lands_againZ fl fun h4 fl4 up4 => ?_
    have K4 : Inv X pins σ2 H2 { t with heap := h4 } := J.landed nb fl4.1 ((up.trans up3).trans up4) os ag
    obtain ⟨o4, vs4, at4, z4, data4⟩ := fl4.there
    refine store_ok (X := X.suite a ((a, o4) :: (X.pn ++ pins))) (v := .ref a) (K4.suite at4 data4 na offL offF) hN hi (.inl hln) rfl (fun s5 S5 => ?_) (.inr hln)
    refine wpAny_mono ((hsu a o4 cls d (X.pn ++ pins) z4 ⟨_, data4⟩).run [] s5 _ H2 _ S5 (hgo a na)) (fun f s6 ends => ?_) (fun _ _ z => z.elim)
    have gone : ∀ {σ6 : St} {H6 : Hp} {Q : Shared → Prop}, Inv (X.suite a ((a, o4) :: (X.pn ++ pins))) [] σ6 H6 s6 → (∀ s7, Inv X pins (σ6.set i none) H6 s7 → Q s7) →
        wpAny (model X.prog X.w) X.A (do bindName X.env n .none; unbindBehindTheSuite X.env n pos') (fun _ s7 => Q s7) X.xe s6 := fun S6 hq => gone_ok (S6.unsuite own) hN hi hln hq
    match f, ends with
    | .next, ⟨_, _, S6, q⟩ => exact gone S6 fun s7 J7 => ⟨_, _, J7, q⟩
    | .brk, ⟨_, _, S6, q⟩ => exact gone S6 fun s7 J7 => ⟨_, _, J7, q⟩
    | .cont, ⟨_, _, S6, q⟩ => exact gone S6 fun s7 J7 => ⟨_, _, J7, q⟩
    | .ret u, ⟨_, _, _, S6, r, q⟩ => exact gone S6 fun s7 J7 => ⟨_, _, _, J7, r, q⟩
  refine wpAny_Try_except (wpAny_mono ((hb _ (X.pn ++ pins) xe' caught PassesOwn.looking).run [] s σ H D (I.toTry _) hw) (fun f s1 ends => ?_) (fun e s1 he => he))
  match f, ends with
  | .next, ⟨σ1, H1, J, q⟩ => exact wpAny_execs_nil ⟨σ1, H1, J.ofTry own, q⟩
  | .brk, ⟨σ1, H1, J, q⟩ => exact ⟨σ1, H1, J.ofTry own, q⟩
  | .cont, ⟨σ1, H1, J, q⟩ => exact ⟨σ1, H1, J.ofTry own, q⟩
  | .ret u, ⟨v, σ1, H1, J, r, q⟩ => exact ⟨v, σ1, H1, J.ofTry own, r, q⟩
end
end L2
set_option Elab.async false
set_option linter.all false
set_option maxRecDepth 100000
set_option autoImplicit false
namespace Z
open PySem PySem.Spec PyProof.Rows L2
section
variable {X : Cx} {Γ : Nat → Ct} {mu : List Nat} {a b : Expr} {bs : List (Nat × Nat)} {ea eb : E} {pos p p2 : Pos} {Cb fI : Addr} {k : Nat}
/-- raise BadLine(a, b) -/
theorem V_rs (T : ZX.XTxt X.prog X.K X.mg Cb fI) (hr : Room k X.A) (hc : X.calm = true) (hg : Gl X "BadLine") (hs : [a, b].all noStar = true) (ha : EA X Γ mu bs [a, b] (.cons ea (.cons eb .nil))) :
    ES X Γ mu (.Raise (some (.Call (.Name "BadLine" p) [a, b] [] p2)) none pos) (.rs "BadLine" "line" "word" ea eb) := fun W tk => by
  have hs' := hs
  simp only [List.all_cons, List.all_nil, Bool.and_true, Bool.and_eq_true] at hs'
  refine PSmono (ps_raise hc tk (pmk_x T hr ha hg (noStar_star hs'.1) (noStar_any (by simp [hs'.2])))) fun Dn σ H ⟨pn, δ, Fr, R, hp, s, h, q1, q2, q3, q4, q5⟩ => ?_
  refine ⟨pn, δ, Fr, fun ds δ' => ∃ v1 v2, ds = [.at v1, .at v2] ∧ R (.xc "BadLine" [("word", v2), ("line", v1)] δ'), hp, s, ?_, fun ds δ1 vs H1 ⟨v1, v2, e, hR⟩ hl hb s1 => ?_⟩
  · have h : wpE Γ ea δ fun y δ1 => wpE Γ eb δ1 fun z δ2 => ∃ v1 v2, y = .at v1 ∧ z = .at v2 ∧ R (.xc "BadLine" [("word", v2), ("line", v1)] δ2) := h
    show wpE Γ ea δ fun y δ1 => wpE Γ eb δ1 fun z δ2 => ∃ v1 v2, [y, z] = [D.at v1, D.at v2] ∧ R (.xc "BadLine" [("word", v2), ("line", v1)] δ2)
    have e : ∀ (y z : D) (δ2 : Env), (∃ v1 v2, [y, z] = [D.at v1, D.at v2] ∧ R (.xc "BadLine" [("word", v2), ("line", v1)] δ2)) = ∃ v1 v2, y = .at v1 ∧ z = .at v2 ∧ R (.xc "BadLine" [("word", v2), ("line", v1)] δ2) := fun y z δ2 => propext ⟨fun ⟨v1, v2, e, h⟩ => by cases e; exact ⟨v1, v2, rfl, rfl, h⟩, fun ⟨v1, v2, e1, e2, h⟩ => by subst e1 e2; exact ⟨v1, v2, rfl, h⟩⟩
    simp only [e]
    exact h
  · subst e
    match vs, hl, s1 with
    | [w1, w2], _, s1 =>
      have e1 := (s1.seen (v := w1) (d := .at v1) (by simp [vals])).at
      have e2 := (s1.seen (v := w2) (d := .at v2) (by simp [vals])).at
      subst e1 e2
      refine ⟨_, _, rfl, fun d hd => ?_⟩
      have s2 : Sim X.K pn σ δ1 Fr H1 := Sim.dropL (Fr := vals [w1, w2] [.at w1, .at w2]) s1
      exact q5 _ _ _ _ _ _ _ hR T.gC (s2.ofc (A := Fr) (s2.front.alloc hd trivial))
end
end Z
set_option Elab.async false
set_option linter.all false
set_option maxRecDepth 100000
set_option autoImplicit false
namespace Z
open PySem PySem.Spec PyProof.Rows L2
/-! ## a + c * e + o.replace(y, d * f): the texts' tokens -/
/-- what the written part says: no token's sharing is left open -/
structure NBk (K : PySem.W.Frag) : Prop where
  ex : ∃ o es n, K.lookup cStatics = some o ∧ o.data = .dict es n ∧ StrKeys es ∧ nsFind es sharingNotToldKey = none
theorem NBk.at {K : PySem.W.Frag} (h : NBk K) {hp : Heap} (X : K.In hp) : NoneBooked hp := by
  obtain ⟨o, es, n, e, hd, hk, hn⟩ := h.ex
  exact ⟨fun y => nsFind es y, ⟨o, es, n, X _ _ e, hd, hk, fun _ => rfl⟩, hn⟩
/-- a reading that leaves a token -/
def PTk (X : Cx) (e : Expr) (t : TE) : Prop := ∀ (pins : List (Addr × Obj)) (s : Shared) (σ : L2.St) (H : Hp) (Q : VK), Inv X pins σ H s → t σ H Q → wpAny (model X.prog X.w) X.A (eval e X.env) (fun v s' => 1 ≤ s'.toks ∧ L2.EP X pins σ Q v s') X.xe s
section
variable {X : Cx} {a b o e f : Expr} {ta tb to te tf : TE} {c y d : Str} {j k l : Nat} {cp yp dp pos p1 p2 p3 p4 apos : Pos}
theorem ptk_mul (he : PE X e te) : PTk X (.BinOp (.Constant (.str c) j cp) .Mult e p1) (fun σ H Q => te σ H fun v H1 => ∃ n, v = .int n ∧ -(2 ^ 63) ≤ n ∧ n < 2 ^ 63 ∧ c.length * n.toNat ≤ 16777216 ∧ Q (.str (repS c n)) H1) := by
  intro pins s σ H Q I h
  refine wpAny_BinOp (Calls.Constant_str ?_)
  refine wpAny_mono (PySem.wpAny_toks (he.run pins _ σ H _ (I.tok _) h)) (fun v s1 q => ?_) fun _ _ z => z.2
  obtain ⟨hk, x, H1, I1, r1, n, e1, h1, h2, h3, q⟩ := q
  subst e1
  obtain ⟨t, rfl⟩ := r1
  refine mul_str_tok h1 h2 h3 fun v k hv hk2 => ⟨?_, .str (repS c n), H1, I1.tok k, ⟨v, rfl⟩, q⟩
  have hk : s.toks + 1 ≤ s1.toks := hk
  show 1 ≤ k
  omega
theorem ptk_add (ha : PE X a ta) (hb : PTk X b tb) : PTk X (.BinOp a .Add b p2) (fun σ H Q => ta σ H fun x H1 => tb σ H1 fun y H2 => ∃ i j, x = .str i ∧ y = .str j ∧ i.length + j.length ≤ sizeLine ∧ Q (.str (i ++ j)) H2) := by
  intro pins s σ H Q I h
  refine wpAny_BinOp (thn (ha.run pins s σ H _ I h) fun v s1 ⟨x, H1, I1, r1, q1⟩ => ?_)
  refine wpAny_mono (hb pins s1 σ H1 _ I1 q1) (fun u s2 ⟨hk, y, H2, I2, r2, q2⟩ => ?_) fun _ _ z => z
  refine wpAny_mono (PySem.wpAny_toks (op_add_str pins s2 σ H2 x y v u Q I2 r1 r2 q2)) (fun w s3 q => ⟨Nat.le_trans hk q.1, q.2⟩) fun _ _ z => z.2
theorem pet_rpl (nb : NBk X.K) (ho : PE X o to) (hf : PE X f tf)
    (hst : starEach [.Constant (.str y) j yp, .BinOp (.Constant (.str d) k dp) .Mult f p3] X.env = [(false, eval (.Constant (.str y) j yp) X.env), (false, eval (.BinOp (.Constant (.str d) k dp) .Mult f p3) X.env)])
    (hbase : attributeBase o "replace" X.env (eval o X.env) = eval o X.env) (hline : (apos.endLine == p4.line) = true) :
    PET X (.Call (.Attribute o "replace" apos) [.Constant (.str y) j yp, .BinOp (.Constant (.str d) k dp) .Mult f p3] [] p4)
      (fun σ H Q => to σ H fun v H1 => ∃ x, v = .str x ∧ tf σ H1 fun w H2 => ∃ n, w = .int n ∧ -(2 ^ 63) ≤ n ∧ n < 2 ^ 63 ∧ d.length * n.toNat ≤ 16777216 ∧ x.length + (x.length + 1) * (repS d n).length ≤ 16777216 ∧ Q (.str (Txt.replace x y (repS d n))) H2) := by
  intro pins s σ H Q h0 I h
  refine PySem.Call_method2 hbase hst hline (wpAny_mono (PySem.wpAny_toks (ho.run pins s σ H _ I h)) (fun v s1 q => ?_) fun _ _ z => z.2)
  obtain ⟨hk, v', H1, I1, r1, x, e1, q⟩ := q
  subst e1
  obtain ⟨tx, rfl⟩ := r1
  refine ⟨"str", _, PySem.F.plainAttrs_str, PySem.F.slot_str_replace, PySem.F.type_str_replace, typeIs_str _ _ _, (fun _ e => nomatch e), Calls.callWith_builtin rfl (Calls.evalArgs_plain (Calls.spliced_cons ?_))⟩
  refine Calls.Constant_str (Calls.spliced_cons ?_)
  refine wpAny_BinOp (Calls.Constant_str ?_)
  refine wpAny_mono (PySem.wpAny_toks (hf.run pins _ σ H1 _ (((I1.tok _).tok _)) q)) (fun u s2 q => ?_) fun _ _ z => z.2
  obtain ⟨hk2, w, H2, I2, r2, n, e2, h1, h2, h3, h4, q⟩ := q
  subst e2
  obtain ⟨tn, rfl⟩ := r2
  have hk2 : s1.toks + 1 + 1 ≤ s2.toks := hk2
  refine mul_str_tok h1 h2 h3 fun v k hv hk3 => Calls.spliced_nil ?_
  have hv1 : s1.toks + 1 ≤ v := by
    rcases hv with e | e
    · rw [e]; exact Nat.le_refl _
    · rw [e]; omega
  exact PySem.SC.replaceA (u := s1.toks) (v := v) (show (s1.toks : Nat) ≠ 0 by omega) (Nat.ne_of_gt (Nat.lt_of_lt_of_le (Nat.succ_pos s1.toks) hv1)) (show (s1.toks : Nat) ≠ v by omega) h4 (fun t' k' => ⟨.str (Txt.replace x y (repS d n)), H2, (I2.tok k).tok k', ⟨t', rfl⟩, q⟩) (nb.at (I2.tok k).kIn)
theorem pe_rplD (hA : PTk X a ta) (hR : PET X b tb) : PE X (.BinOp a .Add b pos) (fun σ H Q => ta σ H fun z H3 => tb σ H3 fun w H4 => ∃ i j, z = .str i ∧ w = .str j ∧ i.length + j.length ≤ sizeLine ∧ Q (.str (i ++ j)) H4) :=
  ⟨fun pins s σ H Q I h => wpAny_BinOp (wpAny_mono (hA pins s σ H _ I h) (fun v s1 ⟨hk, x, H1, I1, r1, q1⟩ => thn (hR pins s1 σ H1 _ hk I1 q1) fun u s2 ⟨y, H2, I2, r2, q2⟩ => op_add_str pins s2 σ H2 x y v u Q I2 r1 r2 q2) fun _ _ z => z)⟩
def rplDW (wa : WE) (c : Str) (we : WE) (eo : E) (y d : Str) (wf : WE) : WE := fun δ Q => wa δ fun xa δ1 => ∃ sa, xa = .at (.str sa) ∧ we δ1 fun xn δ2 => ∃ n, xn = .at (.int n) ∧ -(2 ^ 63) ≤ n ∧ n < 2 ^ 63 ∧ c.length * n.toNat ≤ 16777216 ∧ sa.length + (repS c n).length ≤ sizeLine ∧
  wpP eo δ2 fun xo => ∃ so, xo = .at (.str so) ∧ wf δ2 fun xm δ3 => ∃ m, xm = .at (.int m) ∧ -(2 ^ 63) ≤ m ∧ m < 2 ^ 63 ∧ d.length * m.toNat ≤ 16777216 ∧ so.length + (so.length + 1) * (repS d m).length ≤ 16777216 ∧ (sa ++ repS c n).length + (Txt.replace so y (repS d m)).length ≤ sizeLine ∧
  Q (.at (.str (sa ++ repS c n ++ Txt.replace so y (repS d m)))) δ3
variable {Γ : Nat → Ct} {mu : List Nat} {ea ee ef eo : E}
theorem E_rplD (nb : NBk X.K) (hst : starEach [.Constant (.str y) j yp, .BinOp (.Constant (.str d) k dp) .Mult f p3] X.env = [(false, eval (.Constant (.str y) j yp) X.env), (false, eval (.BinOp (.Constant (.str d) k dp) .Mult f p3) X.env)])
    (hbase : attributeBase o "replace" X.env (eval o X.env) = eval o X.env) (hline : (apos.endLine == p4.line) = true)
    (ha : EE X Γ mu a ea) (he : EE X Γ mu e ee) (ho : EP X mu o eo) (hf : EE X Γ mu f ef) :
    EE X Γ mu (.BinOp (.BinOp a .Add (.BinOp (.Constant (.str c) l cp) .Mult e p1) p2) .Add (.Call (.Attribute o "replace" apos) [.Constant (.str y) j yp, .BinOp (.Constant (.str d) k dp) .Mult f p3] [] p4) pos)
      (.xe (rplDW (wpE Γ ea) c (wpE Γ ee) eo y d (wpE Γ ef))) :=
  PEmono (pe_rplD (ptk_add ha (ptk_mul he)) (pet_rpl nb ho hf hst hbase hline)) fun σ H Q ⟨pn, δ, Fr, R, hp, s, h, q⟩ => ⟨pn, δ, Fr, _, hp, s, h, fun xa δ1 va H1 ⟨sa, ea, hr⟩ s1 => by
    subst ea
    have e1 := (s1.seen (v := va) List.mem_cons_self).at
    subst e1
    refine ⟨pn, δ1, Fr, _, hp, s1.drop, hr, fun xn δ2 vn H2 ⟨n, en, n1, n2, n3, n4, hr2⟩ s2 => ?_⟩
    subst en
    have e2 := (s2.seen (v := vn) List.mem_cons_self).at
    subst e2
    refine ⟨n, rfl, n1, n2, n3, sa, repS c n, rfl, rfl, n4, pn, δ2, Fr, _, hp, s2.drop, hr2, fun xo vo ⟨so, eo, hr3⟩ io => ?_⟩
    subst eo
    have e3 := io.at
    subst e3
    refine ⟨so, rfl, pn, δ2, Fr, _, hp, s2.drop, hr3, fun xm δ3 vm H3 ⟨m, em, m1, m2, m3, m4, m5, hr4⟩ s3 => ?_⟩
    subst em
    have e4 := (s3.seen (v := vm) List.mem_cons_self).at
    subst e4
    exact ⟨m, rfl, m1, m2, m3, m4, _, _, rfl, rfl, m5, q _ δ3 _ H3 hr4 (s3.drop.of s3.drop.front.mkat)⟩⟩
end
section
variable {X : Cx} {N : List Str} {sc : Scope} {BL : List Str} {FT : List FnI} {av : List Nat} {Γ : Nat → Ct} {mu : List Nat} {pos : Pos}
/-- [.. for ..], the block reads the module's constants -/
theorem V_compG {it : It} {g : G} {t : OT} {e : E} {ns : List Nat} {elt tg iter : Expr} {ifs : List Expr} {scope : Scope} (C : CxP X N sc BL FT av Γ) (own : List (Str × Nat)) (hb : blkD N sc scope mu own ns = true) (hk : scope.kind = .function) (hi : EI X Γ mu tg iter it) (hs : noLc iter = true)
    (hg : ∀ X', CxP X' N (relS scope sc) BL FT av Γ → EG X' mu ns tg g) (ht : ∀ X', X'.mg = X.mg → CxP X' N (relS scope sc) BL FT av Γ → PTs X' ifs (liftT X'.K mu (wpOT Γ t))) (he : ∀ X', X'.mg = X.mg → CxP X' N (relS scope sc) BL FT av Γ → EE X' Γ mu elt e) :
    EE X Γ mu (.ListComp elt [⟨tg, iter, ifs, 0⟩] scope pos) (.comp (own.map (·.2)) it g t e) :=
  E_comp (tt := tYes) own (blkD_ok hb).2.1 (blkD_ok hb).2.2 C.calm C.ndX hi (by rw [C.nN, C.sC]; exact blkOk_by (blkD_ok hb).1) (fun s H c cl fp => hg _ (C.blk hk s H c cl fp)) (fun s H c cl fp => ht _ rfl (C.blk hk s H c cl fp)) (fun s H c cl fp => he _ rfl (C.blk hk s H c cl fp)) (noLc_fold hs)
end
end Z
set_option Elab.async false
set_option linter.all false
set_option maxRecDepth 100000
set_option autoImplicit false
namespace Z
open PySem PySem.Spec PyProof.Rows L2
/-! ## what is reached is one thing: a wp that has a post has it at a point -/
def Pt {α : Type} (w : (α → Prop) → Prop) : Prop := ∀ Q, w Q → ∃ a, Q a ∧ ∀ Q' : α → Prop, Q' a → w Q'
def Pt2 {α β : Type} (w : (α → β → Prop) → Prop) : Prop := ∀ Q, w Q → ∃ a b, Q a b ∧ ∀ Q' : α → β → Prop, Q' a b → w Q'
def Pt3 {α β γ : Type} (w : (α → β → γ → Prop) → Prop) : Prop := ∀ Q, w Q → ∃ a b c, Q a b c ∧ ∀ Q' : α → β → γ → Prop, Q' a b c → w Q'
section
variable {α β γ α' β' : Type} {p : Prop}
theorem pt1eta {w : (α → Prop) → Prop} (h : Pt fun Q => w Q) : Pt w := h
theorem pt2eta {w : (α → β → Prop) → Prop} (h : Pt2 fun Q => w Q) : Pt2 w := h
theorem pt3eta {w : (α → β → γ → Prop) → Prop} (h : Pt3 fun Q => w Q) : Pt3 w := h
theorem pr1 {a : α} : Pt (fun Q => Q a) := fun _ h => ⟨a, h, fun _ q => q⟩
theorem pr2 {a : α} {b : β} : Pt2 (fun Q => Q a b) := fun _ h => ⟨a, b, h, fun _ q => q⟩
theorem pr3 {a : α} {b : β} {c : γ} : Pt3 (fun Q => Q a b c) := fun _ h => ⟨a, b, c, h, fun _ q => q⟩
theorem pf1 : Pt (fun _ : α → Prop => False) := fun _ h => h.elim
theorem pf2 : Pt2 (fun _ : α → β → Prop => False) := fun _ h => h.elim
theorem pa1 {w : (α → Prop) → Prop} (h : Pt w) : Pt (fun Q => p ∧ w Q) := fun Q ⟨h1, h2⟩ => let ⟨a, q, g⟩ := h Q h2; ⟨a, q, fun Q' q' => ⟨h1, g Q' q'⟩⟩
theorem pa2 {w : (α → β → Prop) → Prop} (h : Pt2 w) : Pt2 (fun Q => p ∧ w Q) := fun Q ⟨h1, h2⟩ => let ⟨a, b, q, g⟩ := h Q h2; ⟨a, b, q, fun Q' q' => ⟨h1, g Q' q'⟩⟩
theorem pa3 {w : (α → β → γ → Prop) → Prop} (h : Pt3 w) : Pt3 (fun Q => p ∧ w Q) := fun Q ⟨h1, h2⟩ => let ⟨a, b, c, q, g⟩ := h Q h2; ⟨a, b, c, q, fun Q' q' => ⟨h1, g Q' q'⟩⟩
theorem pe1 {ι : Sort _} {f : ι → (α → Prop) → Prop} (h : ∀ x, Pt (f x)) : Pt (fun Q => ∃ x, f x Q) := fun Q ⟨x, h2⟩ => let ⟨a, q, g⟩ := h x Q h2; ⟨a, q, fun Q' q' => ⟨x, g Q' q'⟩⟩
theorem pe2 {ι : Sort _} {f : ι → (α → β → Prop) → Prop} (h : ∀ x, Pt2 (f x)) : Pt2 (fun Q => ∃ x, f x Q) := fun Q ⟨x, h2⟩ => let ⟨a, b, q, g⟩ := h x Q h2; ⟨a, b, q, fun Q' q' => ⟨x, g Q' q'⟩⟩
theorem pe3 {ι : Sort _} {f : ι → (α → β → γ → Prop) → Prop} (h : ∀ x, Pt3 (f x)) : Pt3 (fun Q => ∃ x, f x Q) := fun Q ⟨x, h2⟩ => let ⟨a, b, c, q, g⟩ := h x Q h2; ⟨a, b, c, q, fun Q' q' => ⟨x, g Q' q'⟩⟩
theorem pi1 [Decidable p] {u v : (α → Prop) → Prop} (hu : Pt u) (hv : Pt v) : Pt (fun Q => if p then u Q else v Q) := fun Q h => by
  by_cases e : p
  · simp only [if_pos e] at h ⊢; exact hu Q h
  · simp only [if_neg e] at h ⊢; exact hv Q h
theorem pi2 [Decidable p] {u v : (α → β → Prop) → Prop} (hu : Pt2 u) (hv : Pt2 v) : Pt2 (fun Q => if p then u Q else v Q) := fun Q h => by
  by_cases e : p
  · simp only [if_pos e] at h ⊢; exact hu Q h
  · simp only [if_neg e] at h ⊢; exact hv Q h
theorem pb11 {w : (α → Prop) → Prop} {f : α → (α' → Prop) → Prop} (h : Pt w) (g : ∀ a, Pt (f a)) : Pt (fun Q => w fun a => f a Q) := fun Q h2 =>
  let ⟨a, q, k⟩ := h _ h2; let ⟨b, q2, k2⟩ := g a Q q; ⟨b, q2, fun Q' q' => k _ (k2 Q' q')⟩
theorem pb12 {w : (α → Prop) → Prop} {f : α → (α' → β' → Prop) → Prop} (h : Pt w) (g : ∀ a, Pt2 (f a)) : Pt2 (fun Q => w fun a => f a Q) := fun Q h2 =>
  let ⟨a, q, k⟩ := h _ h2; let ⟨b, c, q2, k2⟩ := g a Q q; ⟨b, c, q2, fun Q' q' => k _ (k2 Q' q')⟩
theorem pb21 {w : (α → β → Prop) → Prop} {f : α → β → (α' → Prop) → Prop} (h : Pt2 w) (g : ∀ a b, Pt (f a b)) : Pt (fun Q => w fun a b => f a b Q) := fun Q h2 =>
  let ⟨a, b, q, k⟩ := h _ h2; let ⟨c, q2, k2⟩ := g a b Q q; ⟨c, q2, fun Q' q' => k _ (k2 Q' q')⟩
theorem pb22 {w : (α → β → Prop) → Prop} {f : α → β → (α' → β' → Prop) → Prop} (h : Pt2 w) (g : ∀ a b, Pt2 (f a b)) : Pt2 (fun Q => w fun a b => f a b Q) := fun Q h2 =>
  let ⟨a, b, q, k⟩ := h _ h2; let ⟨c, d, q2, k2⟩ := g a b Q q; ⟨c, d, q2, fun Q' q' => k _ (k2 Q' q')⟩
theorem pb23 {δ : Type} {w : (α → β → Prop) → Prop} {f : α → β → (α' → β' → δ → Prop) → Prop} (h : Pt2 w) (g : ∀ a b, Pt3 (f a b)) : Pt3 (fun Q => w fun a b => f a b Q) := fun Q h2 =>
  let ⟨a, b, q, k⟩ := h _ h2; let ⟨c, d, e, q2, k2⟩ := g a b Q q; ⟨c, d, e, q2, fun Q' q' => k _ (k2 Q' q')⟩
theorem pb32 {w : (α → β → γ → Prop) → Prop} {f : α → β → γ → (α' → β' → Prop) → Prop} (h : Pt3 w) (g : ∀ a b c, Pt2 (f a b c)) : Pt2 (fun Q => w fun a b c => f a b c Q) := fun Q h2 =>
  let ⟨a, b, c, q, k⟩ := h _ h2; let ⟨d, e, q2, k2⟩ := g a b c Q q; ⟨d, e, q2, fun Q' q' => k _ (k2 Q' q')⟩
end
theorem pt_truth (d : D) : Pt (truth d) := fun Q h => by
  unfold truth at h
  split at h
  · exact ⟨_, h, fun _ q => q⟩
  · exact ⟨_, h, fun _ q => q⟩
  · exact ⟨_, h, fun _ q => q⟩
  · exact ⟨_, h.2, fun _ q => ⟨h.1, q⟩⟩
  · exact ⟨_, h, fun _ q => q⟩
  · exact ⟨_, h, fun _ q => q⟩
  · exact h.elim
theorem pt_len (d : D) : Pt (evLen d) := fun Q h => by
  unfold evLen at h
  split at h
  · exact ⟨_, h.2, fun _ q => ⟨h.1, q⟩⟩
  · exact ⟨_, h, fun _ q => q⟩
  · exact ⟨_, h, fun _ q => q⟩
  · exact h.elim
theorem pt_neg (d : D) : Pt (evNeg d) := fun Q h => by
  unfold evNeg at h
  split at h
  · exact ⟨_, h, fun _ q => q⟩
  · exact h.elim
theorem pt_nt (d : D) : Pt (evNt d) := show Pt (fun k => truth d fun b => k (D.at (.bl !b))) from pb11 (pt_truth d) fun b => pr1
theorem pt_abs (d : D) : Pt (evAbs d) := fun Q h => by
  unfold evAbs at h
  split at h
  · exact ⟨_, h, fun _ q => q⟩
  · exact h.elim
theorem pt_str (d : D) : Pt (evStr d) := fun Q h => by
  unfold evStr at h
  split at h
  · exact ⟨_, h, fun _ q => q⟩
  · exact ⟨_, h.2, fun _ q => ⟨h.1, q⟩⟩
  · exact h.elim
theorem pt_int (d : D) : Pt (evInt d) := fun Q h => by
  unfold evInt at h
  split at h
  · exact ⟨_, h, fun _ q => q⟩
  · exact ⟨_, h, fun _ q => q⟩
  · obtain ⟨n, h1, h2, h3⟩ := h; exact ⟨_, h3, fun _ q => ⟨n, h1, h2, q⟩⟩
  · exact h.elim
theorem pt_sum (d : D) : Pt (evSum d) := fun Q h => by
  unfold evSum at h
  split at h
  · obtain ⟨n, h1, h3⟩ := h; exact ⟨_, h3, fun _ q => ⟨n, h1, q⟩⟩
  · exact h.elim
theorem pt_isi (ts : List Ty) (d : D) : Pt (evIsi ts d) := fun Q h => by
  unfold evIsi at h
  split at h
  · obtain ⟨n, h1, h3⟩ := h; exact ⟨_, h3, fun _ q => ⟨n, h1, q⟩⟩
  · obtain ⟨n, m, h1, h2, h3⟩ := h; exact ⟨_, h3, fun _ q => ⟨n, m, h1, h2, q⟩⟩
  · exact h.elim
theorem pt_ev1 : ∀ (op : U1) (d : D), Pt (ev1 op d)
  | .len, d => pt_len d
  | .neg, d => pt_neg d
  | .nt, d => pt_nt d
  | .abs, d => pt_abs d
  | .str, d => pt_str d
  | .int, d => pt_int d
  | .sum, d => pt_sum d
  | .isNon, d => pr1
  | .isNotNon, d => pr1
  | .isi ts, d => pt_isi ts d
theorem pt_iop (C : Int → Int → Prop) (g : Int → Int → V) (x y : D) : Pt (iop C g x y) := fun Q h => by
  unfold iop at h
  split at h
  · exact ⟨_, h.2, fun _ q => ⟨h.1, q⟩⟩
  · exact h.elim
theorem pt_iop0 (g : Int → Int → V) (x y : D) : Pt (iop0 g x y) := fun Q h => by
  unfold iop0 at h
  split at h
  · exact ⟨_, h, fun _ q => q⟩
  · exact h.elim
theorem pt_add (x y : D) : Pt (evAdd x y) := fun Q h => by
  unfold evAdd at h
  split at h
  · exact ⟨_, h, fun _ q => q⟩
  · exact ⟨_, h.2, fun _ q => ⟨h.1, q⟩⟩
  · exact h.elim
theorem pt_eqD (x y : D) : Pt (eqD x y) := by
  by_cases h1 : ∃ i j, x = .at (.int i) ∧ y = .at (.int j)
  · obtain ⟨i, j, rfl, rfl⟩ := h1; exact pr1
  by_cases h2 : ∃ i j, x = .at (.str i) ∧ y = .at (.str j)
  · obtain ⟨i, j, rfl, rfl⟩ := h2; exact pr1
  by_cases h3 : ∃ i j, x = .at (.bl i) ∧ y = .at (.bl j)
  · obtain ⟨i, j, rfl, rfl⟩ := h3; exact pr1
  have e : eqD x y = fun k => ∃ a b, pyd x = some a ∧ pyd y = some b ∧ SeqAt.shaped a = true ∧ SeqAt.shaped b = true ∧ k (PyData.eqv a b) := by
    funext k
    unfold eqD
    split
    · exact absurd ⟨_, _, rfl, rfl⟩ h1
    · exact absurd ⟨_, _, rfl, rfl⟩ h2
    · exact absurd ⟨_, _, rfl, rfl⟩ h3
    · rfl
  rw [e]
  exact pe1 fun _ => pe1 fun _ => pa1 (pa1 (pa1 (pa1 pr1)))
theorem pt_idx (x y : D) : Pt (evIdx x y) := fun Q h => by
  unfold evIdx at h
  split at h
  · obtain ⟨d, h1, h2⟩ := h; exact ⟨_, h2, fun _ q => ⟨d, h1, q⟩⟩
  · obtain ⟨d, h1, h2⟩ := h; exact ⟨_, h2, fun _ q => ⟨d, h1, q⟩⟩
  · obtain ⟨h0, d, h1, h2⟩ := h; exact ⟨_, h2, fun _ q => ⟨h0, d, h1, q⟩⟩
  · exact h.elim
theorem pt_join (x y : D) : Pt (evJoin x y) := fun Q h => by
  unfold evJoin at h
  split at h
  · obtain ⟨d, h1, h2, h3⟩ := h; exact ⟨_, h3, fun _ q => ⟨d, h1, h2, q⟩⟩
  · obtain ⟨d, h1, h2, h3⟩ := h; exact ⟨_, h3, fun _ q => ⟨d, h1, h2, q⟩⟩
  · exact h.elim
theorem pt_in (n : Bool) (x y : D) : Pt (evIn n x y) := fun Q h => by
  unfold evIn at h
  split at h
  · obtain ⟨d, h1, h2, h3, h4⟩ := h; exact ⟨_, h4, fun _ q => ⟨d, h1, h2, h3, q⟩⟩
  · obtain ⟨d, h1, h2, h3, h4⟩ := h; exact ⟨_, h4, fun _ q => ⟨d, h1, h2, h3, q⟩⟩
  · exact h.elim
theorem pt_inD (n : Bool) (x y : D) : Pt (evInD n x y) := fun Q h => by
  unfold evInD at h
  split at h
  · obtain ⟨d, e, h1, h2, h3, h4, h5⟩ := h; exact ⟨_, h5, fun _ q => ⟨d, e, h1, h2, h3, h4, q⟩⟩
  · exact h.elim
theorem pt_index (x y : D) : Pt (evIndex x y) := fun Q h => by
  unfold evIndex at h
  split at h
  · obtain ⟨d, e, j, z, h1, h2, h3, h4, h5, h6, h7, h8⟩ := h; exact ⟨_, h8, fun _ q => ⟨d, e, j, z, h1, h2, h3, h4, h5, h6, h7, q⟩⟩
  · exact h.elim
theorem pt_cnt (x y : D) : Pt (evCnt x y) := fun Q h => by
  unfold evCnt at h
  split at h
  · obtain ⟨d, h1, h2⟩ := h; exact ⟨_, h2, fun _ q => ⟨d, h1, q⟩⟩
  · exact h.elim
theorem pt_ev2 : ∀ (op : U2) (x y : D), Pt (ev2 op x y)
  | .add, x, y => by
    refine pt1eta ?_
    simp only [ev2]
    exact pt_add x y
  | .sub, x, y => by
    refine pt1eta ?_
    simp only [ev2]
    exact pt_iop0 _ x y
  | .mul, x, y => by
    refine pt1eta ?_
    simp only [ev2]
    exact pt_iop _ _ x y
  | .fdiv, x, y => by
    refine pt1eta ?_
    simp only [ev2]
    exact pt_iop _ _ x y
  | .mod, x, y => by
    refine pt1eta ?_
    simp only [ev2]
    exact pt_iop _ _ x y
  | .pow, x, y => by
    refine pt1eta ?_
    simp only [ev2]
    exact pt_iop _ _ x y
  | .shl, x, y => by
    refine pt1eta ?_
    simp only [ev2]
    exact pt_iop _ _ x y
  | .eq, x, y => by
    refine pt1eta ?_
    simp only [ev2]
    exact pb11 (pt_eqD x y) fun _ => pr1
  | .ne, x, y => by
    refine pt1eta ?_
    simp only [ev2]
    exact pb11 (pt_eqD x y) fun _ => pr1
  | .lt, x, y => by
    refine pt1eta ?_
    simp only [ev2]
    exact pt_iop0 _ x y
  | .le, x, y => by
    refine pt1eta ?_
    simp only [ev2]
    exact pt_iop0 _ x y
  | .gt, x, y => by
    refine pt1eta ?_
    simp only [ev2]
    exact pt_iop0 _ x y
  | .ge, x, y => by
    refine pt1eta ?_
    simp only [ev2]
    exact pt_iop0 _ x y
  | .idx, x, y => by
    refine pt1eta ?_
    simp only [ev2]
    exact pt_idx x y
  | .join, x, y => by
    refine pt1eta ?_
    simp only [ev2]
    exact pt_join x y
  | .isin, x, y => by
    refine pt1eta ?_
    simp only [ev2]
    exact pt_in _ x y
  | .notin, x, y => by
    refine pt1eta ?_
    simp only [ev2]
    exact pt_in _ x y
  | .isinD, x, y => by
    refine pt1eta ?_
    simp only [ev2]
    exact pt_inD _ x y
  | .notinD, x, y => by
    refine pt1eta ?_
    simp only [ev2]
    exact pt_inD _ x y
  | .cnt, x, y => by
    refine pt1eta ?_
    simp only [ev2]
    exact pt_cnt x y
  | .index, x, y => by
    refine pt1eta ?_
    simp only [ev2]
    exact pt_index x y
  | .max, x, y => by
    refine pt1eta ?_
    simp only [ev2]
    exact pt_iop0 _ x y
  | .min, x, y => by
    refine pt1eta ?_
    simp only [ev2]
    exact pt_iop0 _ x y
theorem pt_dgetK (c : Kd) (ds : List D) (x : D) : Pt (dgetK c ds x) := fun Q h => by
  unfold dgetK at h
  split at h
  · obtain ⟨d, h1, h2⟩ := h; exact ⟨_, h2, fun _ q => ⟨d, h1, q⟩⟩
  · obtain ⟨d, h1, h2⟩ := h; exact ⟨_, h2, fun _ q => ⟨d, h1, q⟩⟩
  · exact h.elim
theorem pt_dget (x y : D) : Pt (dget x y) := by
  cases x with
  | nd c o ds => exact pt_dgetK c.base ds y
  | _ => exact fun Q h => h.elim
theorem pt_ixd (x y : D) : Pt (evIxd x y) := by
  by_cases h1 : ∃ o ds, x = .nd .tup o ds
  · obtain ⟨o, ds, rfl⟩ := h1; exact pt_idx _ _
  by_cases h2 : ∃ o ds, x = .nd .lst o ds
  · obtain ⟨o, ds, rfl⟩ := h2; exact pt_idx _ _
  have e : evIxd x y = fun k => dget x y fun o => ∃ r, o = some r ∧ k r := by
    funext k
    unfold evIxd
    split
    · exact absurd ⟨_, _, rfl⟩ h1
    · exact absurd ⟨_, _, rfl⟩ h2
    · rfl
  rw [e]
  exact pb11 (pt_dget x y) fun o => pe1 fun r => pa1 pr1
theorem pt_dput (x y v : D) : Pt (dput x y v) := fun Q h => by
  unfold dput at h
  split at h
  · obtain ⟨h0, d, h1, h2⟩ := h; exact ⟨_, h2, fun _ q => ⟨h0, d, h1, q⟩⟩
  · obtain ⟨h0, d, h1, h2⟩ := h; exact ⟨_, h2, fun _ q => ⟨h0, d, h1, q⟩⟩
  · exact h.elim
theorem pt_evA1 (op : A1) (h0 : op ≠ .sorted) (d : D) : Pt (evA1 op d) := fun Q h => by
  unfold evA1 at h
  split at h
  all_goals first
    | exact absurd rfl h0
    | exact h.elim
    | exact ⟨_, h.2, fun _ q => ⟨h.1, q⟩⟩
    | exact ⟨_, h, fun _ q => q⟩
    | (obtain ⟨h1, ks, vs, h2, h3, h4⟩ := h; exact ⟨_, h4, fun _ q => ⟨h1, ks, vs, h2, h3, q⟩⟩)
theorem pt_evM (m : M) (xs ds : List D) : Pt2 (evM m xs ds) := fun Q h => by
  unfold evM at h
  split at h
  · exact ⟨_, _, h.2, fun _ q => ⟨h.1, q⟩⟩
  · obtain ⟨d, h1, h2⟩ := h; exact ⟨_, _, h2, fun _ q => ⟨d, h1, q⟩⟩
  · obtain ⟨h1, h2, j, d, h3, h4, h5⟩ := h; exact ⟨_, _, h5, fun _ q => ⟨h1, h2, j, d, h3, h4, q⟩⟩
  · exact ⟨_, _, h.2, fun _ q => ⟨h.1, q⟩⟩
  · obtain ⟨h1, h2, h3, h4⟩ := h; exact ⟨_, _, h4, fun _ q => ⟨h1, h2, h3, q⟩⟩
  · exact h.elim
mutual
theorem pt_G : ∀ (g : G) (d : D) (δ : Env), Pt (wpG g d δ)
  | .name i, d, δ => by
    refine pt1eta ?_
    simp only [wpG]
    exact pr1
  | .tup gs, .nd .tup _ ds, δ => by
    refine pt1eta ?_
    simp only [wpG]
    exact pa1 (pt_Gs gs ds δ)
  | .tup _, .at _, δ => fun _ h => h.elim
  | .tup _, .nd .lst _ _, δ => fun _ h => h.elim
  | .tup _, .nd (.dK _) _ _, δ => fun _ h => h.elim
  | .tup _, .nd (.dT _) _ _, δ => fun _ h => h.elim
  | .tup _, .nd (.lkK _ _) _ _, δ => fun _ h => h.elim
  | .tup _, .nd (.lkT _ _) _ _, δ => fun _ h => h.elim
theorem pt_Gs : ∀ (gs : List G) (ds : List D) (δ : Env), Pt (wpGs gs ds δ)
  | [], [], δ => by
    refine pt1eta ?_
    simp only [wpGs]
    exact pr1
  | g :: gs, d :: ds, δ => by
    refine pt1eta ?_
    simp only [wpGs]
    exact pb11 (pt_G g d δ) fun δ1 => pt_Gs gs ds δ1
  | [], _ :: _, δ => fun _ h => h.elim
  | _ :: _, [], δ => fun _ h => h.elim
end
theorem pt_forW {body : D → Env → (Out → Prop) → Prop} (hb : ∀ d δ, Pt (body d δ)) : ∀ (ds : List D) (δ : Env), Pt (forW body ds δ)
  | [], δ => by
    refine pt1eta ?_
    simp only [forW]
    exact pr1
  | d :: ds, δ => by
    refine pt1eta ?_
    simp only [forW]
    exact pb11 (hb d δ) fun o => by
        cases o with
        | nx δ1 => exact pt_forW hb ds δ1
        | ct δ1 => exact pt_forW hb ds δ1
        | bk δ1 => exact pr1
        | rt r δ1 => exact pr1
        | xc x fs δ1 => exact pr1
theorem pt_forC {body : D → Env → (Option D → Env → Prop) → Prop} (hb : ∀ d δ, Pt2 (body d δ)) : ∀ (ds : List D) (δ : Env) (acc : List D), Pt2 (forC body ds δ acc)
  | [], δ, acc => by
    refine pt2eta ?_
    simp only [forC]
    exact pr2
  | d :: ds, δ, acc => by
    refine pt2eta ?_
    simp only [forC]
    exact pb22 (hb d δ) fun r δ1 => by
        cases r with
        | some x => exact pa2 (pt_forC hb ds δ1 _)
        | none => exact pt_forC hb ds δ1 _
theorem pt_forD {body : D → Env → (Option (D × D) → Env → Prop) → Prop} (hb : ∀ d δ, Pt2 (body d δ)) : ∀ (ds : List D) (δ : Env) (ks : List Key) (vs : List D), Pt3 (forD body ds δ ks vs)
  | [], δ, ks, vs => by
    refine pt3eta ?_
    simp only [forD]
    exact pr3
  | d :: ds, δ, ks, vs => by
    refine pt3eta ?_
    simp only [forD]
    exact pb23 (hb d δ) fun r δ1 => by
        cases r with
        | some x => exact pa3 (pe3 fun k => pa3 (pt_forD hb ds δ1 _ _))
        | none => exact pt_forD hb ds δ1 _ _
theorem pt_whl {t : Env → (Bool → Env → Prop) → Prop} {b : Env → (Out → Prop) → Prop} (ht : ∀ δ, Pt2 (t δ)) (hb : ∀ δ, Pt (b δ)) : ∀ (n : Nat) (δ : Env), Pt (whlW t b n δ)
  | 0, δ => fun _ h => h.elim
  | n + 1, δ => by
    refine pt1eta ?_
    simp only [whlW]
    exact pb21 (ht δ) fun c δ1 => pi1 (pb11 (hb δ1) fun o => by
        cases o with
        | nx δ1 => exact pt_whl ht hb n δ1
        | ct δ1 => exact pt_whl ht hb n δ1
        | bk δ1 => exact pr1
        | rt r δ1 => exact pr1
        | xc x fs δ1 => exact pr1) pr1
theorem pt_seqD (d : D) : Pt (seqD d) := fun Q h => by
  unfold seqD at h
  split at h
  · exact ⟨_, h.2, fun _ q => ⟨h.1, q⟩⟩
  · exact ⟨_, h.2, fun _ q => ⟨h.1, q⟩⟩
  · exact h.elim
theorem pt_cat (x y : D) (δ : Env) : Pt2 (catW x y δ) := fun Q h => by
  unfold catW at h
  split at h
  · exact ⟨_, _, h.2, fun _ q => ⟨h.1, q⟩⟩
  · exact ⟨_, _, h.2, fun _ q => ⟨h.1, q⟩⟩
  · exact h.elim
theorem pt_slc (x : D) (l u : Option Int) (δ : Env) : Pt2 (slcW x l u δ) := fun Q h => by
  unfold slcW at h
  split at h
  · exact ⟨_, _, h.2, fun _ q => ⟨h.1, q⟩⟩
  · exact ⟨_, _, h.2, fun _ q => ⟨h.1, q⟩⟩
  · exact ⟨_, _, h.2, fun _ q => ⟨h.1, q⟩⟩
  · exact h.elim
theorem pt_rep (x y : D) (δ : Env) : Pt2 (repW x y δ) := fun Q h => by
  unfold repW at h
  split at h
  · obtain ⟨h1, h2, h3, h4, h5⟩ := h; exact ⟨_, _, h5, fun _ q => ⟨h1, h2, h3, h4, q⟩⟩
  · obtain ⟨h1, h2, h3, h4⟩ := h; exact ⟨_, _, h4, fun _ q => ⟨h1, h2, h3, q⟩⟩
  · obtain ⟨h1, h2, h3, h4, h5⟩ := h; exact ⟨_, _, h5, fun _ q => ⟨h1, h2, h3, h4, q⟩⟩
  · exact h.elim
theorem pt_rng2 (ds : List D) : Pt (rngW2 ds) := fun Q h => by
  unfold rngW2 at h
  split at h
  · exact ⟨_, h.2, fun _ q => ⟨h.1, q⟩⟩
  · exact h.elim
theorem pt_rng3 (ds : List D) : Pt (rngW3 ds) := fun Q h => by
  unfold rngW3 at h
  split at h
  · obtain ⟨n, h1, h2⟩ := h; exact ⟨_, h2, fun _ q => ⟨n, h1, q⟩⟩
  · exact h.elim
theorem pt_dcB {own : List Nat} {g : D → Env → (Env → Prop) → Prop} {t : Env → (Bool → Env → Prop) → Prop} {ke ve : Env → (D → Env → Prop) → Prop} (hg : ∀ d δ, Pt (g d δ)) (ht : ∀ δ, Pt2 (t δ)) (hk : ∀ δ, Pt2 (ke δ)) (hv : ∀ δ, Pt2 (ve δ)) (d : D) (δ : Env) : Pt2 (dcB own g t ke ve d δ) := by
  refine pt2eta ?_
  simp only [dcB]
  exact pb12 (hg d δ) fun δ1 => pb22 (ht δ1) fun c δ2 => pi2 (pb22 (hk δ2) fun x δ3 => pb22 (hv δ3) fun y δ4 => pr2) pr2
theorem pt_compB {own : List Nat} {g : D → Env → (Env → Prop) → Prop} {t : Env → (Bool → Env → Prop) → Prop} {e : Env → (D → Env → Prop) → Prop} (hg : ∀ d δ, Pt (g d δ)) (ht : ∀ δ, Pt2 (t δ)) (he : ∀ δ, Pt2 (e δ)) (d : D) (δ : Env) : Pt2 (compB own g t e d δ) := by
  refine pt2eta ?_
  simp only [compB]
  exact pb12 (hg d δ) fun δ1 => pb22 (ht δ1) fun c δ2 => pi2 (pb22 (he δ2) fun x δ3 => pr2) pr2
theorem pt_call (ct : Ct) (m : Option (Nat × Nat)) (ds : List D) (δ : Env) : Pt2 (callW ct m ds δ) := by
  cases m with
  | none => refine pt2eta ?_; simp only [callW]; exact pe2 fun r => pe2 fun o => pa2 pr2
  | some p => refine pt2eta ?_; simp only [callW]; exact pe2 fun r => pe2 fun o => pa2 pr2
end Z
set_option Elab.async false
set_option linter.all false
set_option maxRecDepth 100000
set_option autoImplicit false
namespace Z
open PySem PySem.Spec PyProof.Rows L2
/-! ## .. of the syntax: OkE: no sorted(), no walk over a dict -/
structure Ok1 (w : Env → (D → Prop) → Prop) : Prop where
  pt : ∀ δ, Pt (w δ)
structure Ok2 (w : Env → (D → Env → Prop) → Prop) : Prop where
  pt : ∀ δ, Pt2 (w δ)
structure OkX (w : Env → (Out → Prop) → Prop) : Prop where
  pt : ∀ δ, Pt (w δ)
mutual
def okE : E → Prop
  | .var _ => True | .c _ => True | .u _ e => okE e | .b _ a b => okE a ∧ okE b | .ite t a b => okT t ∧ okE a ∧ okE b | .andV a b => okE a ∧ okE b | .orV a b => okE a ∧ okE b
  | .pv e => okE e | .mv _ => True | .sh _ => True | .vu _ e => okE e | .a1 op e => op ≠ .sorted ∧ okE e | .av op e => op ≠ .sorted ∧ okE e
  | .cat a b => okE a ∧ okE b | .slc e lo hi => okE e ∧ okO lo ∧ okO hi
  | .tup es => okEs es | .tupX es => okEs es | .lst es => okEs es | .dic _ => True
  | .call _ es _ => okEs es | .callP _ _ es => okEs es
  | .dget d k => okE d ∧ okE k | .din _ k d => okE k ∧ okE d | .dgetD _ k x => okE k ∧ okE x
  | .mth _ _ es => okEs es | .mthN _ _ _ _ => True
  | .comp _ it _ t e => okIt it ∧ okOT t ∧ okE e
  | .compK _ _ _ _ _ => False
  | .ixL _ e => okE e | .ixd _ k => okE k | .mq _ a b => okE a ∧ okE b | .rep a b => okE a ∧ okE b | .xe w => Ok2 w | .xp w => Ok1 w | .fz _ e => okE e
  | .dcomp _ it _ t ke ve => okIt it ∧ okOT t ∧ okE ke ∧ okE ve
def okO : O → Prop
  | .none => True | .some e => okE e
def okOT : OT → Prop
  | .none => True | .some t => okT t
def okEs : Es → Prop
  | .nil => True | .cons e es => okE e ∧ okEs es | .consL _ es => okEs es
def okT : T → Prop
  | .v e => okE e | .and a b => okT a ∧ okT b | .or a b => okT a ∧ okT b | .not a => okT a | .pt t => okT t
def okIt : It → Prop
  | .seq e => okE e | .rng e => okE e | .zip a b => okE a ∧ okE b | .enum e => okE e | .rng2 es => okEs es | .rng3 es => okEs es | .str e => okE e
end
mutual
def okS : S → Prop
  | .set _ e => okE e | .asg _ e => okE e | .ex e => okE e | .setIx _ _ k e => okE k ∧ okE e | .dput _ k e => okE k ∧ okE e
  | .par _ _ a b => okE a ∧ okE b | .par3 _ _ _ a b c => okE a ∧ okE b ∧ okE c
  | .ret e => okE e | .brk => True | .cnt => True | .pass => True | .setIxL _ k e => okE k ∧ okE e | .rse => True | .xs w => OkX w
  | .rs _ _ _ a b => okE a ∧ okE b | .setR _ _ _ _ _ es => okEs es | .exR _ _ _ _ es => okEs es | .appR _ _ _ _ _ es => okEs es
  | .ite t a b => okT t ∧ okSs a ∧ okSs b | .whl t b => okT t ∧ okSs b | .fr _ it b => okIt it ∧ okSs b
def okSs : Ss → Prop
  | .nil => True | .cons s ss => okS s ∧ okSs ss
end
mutual
theorem pt_P : ∀ (e : E), okE e → ∀ δ, Pt (wpP e δ)
  | .var i, _, δ => by
    refine pt1eta ?_
    simp only [wpP]
    exact pe1 fun d => pa1 pr1
  | .c v, _, δ => by
    refine pt1eta ?_
    simp only [wpP]
    exact pr1
  | .u op e, h, δ => by
    refine pt1eta ?_
    simp only [wpP]
    exact pb11 (pt_P e h δ) fun d => pt_ev1 op d
  | .b op a b, h, δ => by
    refine pt1eta ?_
    simp only [wpP]
    exact pb11 (pt_P a h.1 δ) fun x => pb11 (pt_P b h.2 δ) fun y => pt_ev2 op x y
  | .ite t a b, h, δ => by
    refine pt1eta ?_
    simp only [wpP]
    exact pb11 (pt_PT t h.1 δ) fun c => pi1 (pt_P a h.2.1 δ) (pt_P b h.2.2 δ)
  | .andV a b, h, δ => by
    refine pt1eta ?_
    simp only [wpP]
    exact pb11 (pt_P a h.1 δ) fun x => pb11 (pt_truth x) fun c => pi1 (pt_P b h.2 δ) pr1
  | .orV a b, h, δ => by
    refine pt1eta ?_
    simp only [wpP]
    exact pb11 (pt_P a h.1 δ) fun x => pb11 (pt_truth x) fun c => pi1 pr1 (pt_P b h.2 δ)
  | .dget d x, h, δ => by
    refine pt1eta ?_
    simp only [wpP]
    exact pb11 (pt_P d h.1 δ) fun dd => pb11 (pt_P x h.2 δ) fun y => pb11 (pt_dget dd y) fun o => pe1 fun r => pa1 pr1
  | .xp w, h, δ => by
    refine pt1eta ?_
    simp only [wpP]
    exact h.pt δ
  | .mq op a b, h, δ => by
    refine pt1eta ?_
    simp only [wpP]
    exact pb11 (pt_P a h.1 δ) fun x => pa1 (pb11 (pt_P b h.2 δ) fun y => pt_ev2 op x y)
  | .ixd i x, h, δ => by
    refine pt1eta ?_
    simp only [wpP]
    exact pe1 fun dd => pa1 (pb11 (pt_P x h δ) fun y => pt_ixd dd y)
  | .din n x d, h, δ => by
    refine pt1eta ?_
    simp only [wpP]
    exact pb11 (pt_P x h.1 δ) fun y => pb11 (pt_P d h.2 δ) fun dd => pb11 (pt_dget dd y) fun o => pr1
  | .pv _, _, _ => by
    refine pt1eta ?_
    simp only [wpP]
    exact pf1
  | .mv _, _, _ => by
    refine pt1eta ?_
    simp only [wpP]
    exact pf1
  | .sh _, _, _ => by
    refine pt1eta ?_
    simp only [wpP]
    exact pf1
  | .vu _ _, _, _ => by
    refine pt1eta ?_
    simp only [wpP]
    exact pf1
  | .a1 _ _, _, _ => by
    refine pt1eta ?_
    simp only [wpP]
    exact pf1
  | .av _ _, _, _ => by
    refine pt1eta ?_
    simp only [wpP]
    exact pf1
  | .cat _ _, _, _ => by
    refine pt1eta ?_
    simp only [wpP]
    exact pf1
  | .slc _ _ _, _, _ => by
    refine pt1eta ?_
    simp only [wpP]
    exact pf1
  | .tup _, _, _ => by
    refine pt1eta ?_
    simp only [wpP]
    exact pf1
  | .tupX _, _, _ => by
    refine pt1eta ?_
    simp only [wpP]
    exact pf1
  | .lst _, _, _ => by
    refine pt1eta ?_
    simp only [wpP]
    exact pf1
  | .dic _, _, _ => by
    refine pt1eta ?_
    simp only [wpP]
    exact pf1
  | .call _ _ _, _, _ => by
    refine pt1eta ?_
    simp only [wpP]
    exact pf1
  | .callP _ _ _, _, _ => by
    refine pt1eta ?_
    simp only [wpP]
    exact pf1
  | .dgetD _ _ _, _, _ => by
    refine pt1eta ?_
    simp only [wpP]
    exact pf1
  | .mth _ _ _, _, _ => by
    refine pt1eta ?_
    simp only [wpP]
    exact pf1
  | .mthN _ _ _ _, _, _ => by
    refine pt1eta ?_
    simp only [wpP]
    exact pf1
  | .comp _ _ _ _ _, _, _ => by
    refine pt1eta ?_
    simp only [wpP]
    exact pf1
  | .compK _ _ _ _ _, _, _ => by
    refine pt1eta ?_
    simp only [wpP]
    exact pf1
  | .ixL _ _, _, _ => by
    refine pt1eta ?_
    simp only [wpP]
    exact pf1
  | .rep _ _, _, _ => by
    refine pt1eta ?_
    simp only [wpP]
    exact pf1
  | .xe _, _, _ => by
    refine pt1eta ?_
    simp only [wpP]
    exact pf1
  | .fz _ _, _, _ => by
    refine pt1eta ?_
    simp only [wpP]
    exact pf1
  | .dcomp _ _ _ _ _ _, _, _ => by
    refine pt1eta ?_
    simp only [wpP]
    exact pf1
theorem pt_PT : ∀ (t : T), okT t → ∀ δ, Pt (wpPT t δ)
  | .v e, h, δ => by
    refine pt1eta ?_
    simp only [wpPT]
    exact pb11 (pt_P e h δ) fun d => pt_truth d
  | .and a b, h, δ => by
    refine pt1eta ?_
    simp only [wpPT]
    exact pb11 (pt_PT a h.1 δ) fun c => pi1 (pt_PT b h.2 δ) pr1
  | .or a b, h, δ => by
    refine pt1eta ?_
    simp only [wpPT]
    exact pb11 (pt_PT a h.1 δ) fun c => pi1 pr1 (pt_PT b h.2 δ)
  | .not a, h, δ => by
    refine pt1eta ?_
    simp only [wpPT]
    exact pb11 (pt_PT a h δ) fun c => pr1
  | .pt _, _, _ => by
    refine pt1eta ?_
    simp only [wpPT]
    exact pf1
end
section
variable (Γ : Nat → Ct)
mutual
theorem pt_E : ∀ (e : E), okE e → ∀ δ, Pt2 (wpE Γ e δ)
  | .pv e, h, δ => by
    refine pt2eta ?_
    simp only [wpE]
    exact pb12 (pt_P e h δ) fun d => pa2 pr2
  | .mv i, _, δ => by
    refine pt2eta ?_
    simp only [wpE]
    exact pe2 fun d => pa2 pr2
  | .sh i, _, δ => by
    refine pt2eta ?_
    simp only [wpE]
    exact pe2 fun d => pa2 pr2
  | .c v, _, δ => by
    refine pt2eta ?_
    simp only [wpE]
    exact pr2
  | .u op e, h, δ => by
    refine pt2eta ?_
    simp only [wpE]
    exact pb22 (pt_E e h δ) fun d δ1 => pb12 (pt_ev1 op d) fun r => pa2 pr2
  | .b op a b, h, δ => by
    refine pt2eta ?_
    simp only [wpE]
    exact pb22 (pt_E a h.1 δ) fun x δ1 => pb22 (pt_E b h.2 δ1) fun y δ2 => pb12 (pt_ev2 op x y) fun r => pa2 pr2
  | .ite t a b, h, δ => by
    refine pt2eta ?_
    simp only [wpE]
    exact pb22 (pt_T t h.1 δ) fun c δ1 => pi2 (pt_E a h.2.1 δ1) (pt_E b h.2.2 δ1)
  | .andV a b, h, δ => by
    refine pt2eta ?_
    simp only [wpE]
    exact pb22 (pt_E a h.1 δ) fun x δ1 => pb12 (pt_truth x) fun c => pi2 (pt_E b h.2 δ1) pr2
  | .orV a b, h, δ => by
    refine pt2eta ?_
    simp only [wpE]
    exact pb22 (pt_E a h.1 δ) fun x δ1 => pb12 (pt_truth x) fun c => pi2 pr2 (pt_E b h.2 δ1)
  | .a1 op e, h, δ => by
    refine pt2eta ?_
    simp only [wpE]
    exact pb22 (pt_E e h.2 δ) fun d δ1 => pb12 (pt_evA1 op h.1 d) fun r => pr2
  | .av op e, h, δ => by
    refine pt2eta ?_
    simp only [wpE]
    exact pb12 (pt_P e h.2 δ) fun d => pb12 (pt_evA1 op h.1 d) fun r => pr2
  | .vu op e, h, δ => by
    refine pt2eta ?_
    simp only [wpE]
    exact pb12 (pt_P e h δ) fun d => pb12 (pt_ev1 op d) fun r => pa2 pr2
  | .tup es, h, δ => by
    refine pt2eta ?_
    simp only [wpE]
    exact pb22 (pt_Es es h δ) fun ds δ1 => pa2 pr2
  | .tupX es, h, δ => by
    refine pt2eta ?_
    simp only [wpE]
    exact pb22 (pt_Es es h δ) fun ds δ1 => pa2 pr2
  | .lst es, h, δ => by
    refine pt2eta ?_
    simp only [wpE]
    exact pb22 (pt_Es es h δ) fun ds δ1 => pa2 pr2
  | .dic t, _, δ => by
    refine pt2eta ?_
    simp only [wpE]
    exact pr2
  | .cat a b, h, δ => by
    refine pt2eta ?_
    simp only [wpE]
    exact pb22 (pt_E a h.1 δ) fun x δ1 => pb22 (pt_E b h.2 δ1) fun y δ2 => pt_cat x y δ2
  | .slc e lo hi, h, δ => by
    refine pt2eta ?_
    simp only [wpE]
    exact pb22 (pt_E e h.1 δ) fun x δ1 => pb22 (pt_O lo h.2.1 δ1) fun l δ2 => pb22 (pt_O hi h.2.2 δ2) fun u δ3 => pt_slc x l u δ3
  | .call f es m, h, δ => by
    refine pt2eta ?_
    simp only [wpE]
    exact pb22 (pt_Es es h δ) fun ds δ1 => pt_call (Γ f) m ds δ1
  | .dgetD i k x, h, δ => by
    refine pt2eta ?_
    simp only [wpE]
    exact pa2 (pb22 (pt_E k h.1 δ) fun y δ1 => pb22 (pt_E x h.2 δ1) fun z δ2 => pe2 fun dd => pa2 (pb12 (pt_dget dd y) fun o => by
          cases o with
          | some r => exact pa2 pr2
          | none => exact pr2))
  | .mth m i es, h, δ => by
    refine pt2eta ?_
    simp only [wpE]
    exact pa2 (pb22 (pt_Es es h δ) fun ds δ1 => pe2 fun xs => pa2 (pb22 (pt_evM m xs ds) fun xs' r => pr2))
  | .mthN m i π c, h, δ => by
    refine pt2eta ?_
    simp only [wpE]
    exact pe2 fun d => pe2 fun xs => pa2 (pa2 (pb22 (pt_evM m xs _) fun xs' r => pr2))
  | .comp own it g t e, h, δ => by
    refine pt2eta ?_
    simp only [wpE]
    exact pb22 (pt_It it h.1 δ) fun ds δ1 => pb22 (pt_forC (pt_compB (pt_G g) (pt_OT t h.2.1) (pt_E e h.2.2)) ds _ _) fun acc δ2 => pr2
  | .compK own i g t e, h, δ => h.elim
  | .ixL i e, h, δ => by
    refine pt2eta ?_
    simp only [wpE]
    exact pa2 (pb22 (pt_E e h δ) fun y δ1 => pe2 fun d => pa2 (pb12 (pt_idx d y) fun r => pa2 pr2))
  | .xe w, h, δ => by
    refine pt2eta ?_
    simp only [wpE]
    exact h.pt δ
  | .fz i e, h, δ => by
    refine pt2eta ?_
    simp only [wpE]
    exact pe2 fun d => pa2 (pt_E e h _)
  | .rep a b, h, δ => by
    refine pt2eta ?_
    simp only [wpE]
    exact pb22 (pt_E a h.1 δ) fun x δ1 => pb22 (pt_E b h.2 δ1) fun y δ2 => pt_rep x y δ2
  | .dcomp own it g t ke ve, h, δ => by
    refine pt2eta ?_
    simp only [wpE]
    exact pb22 (pt_It it h.1 δ) fun ds δ1 => pb32 (pt_forD (pt_dcB (pt_G g) (pt_OT t h.2.1) (pt_E ke h.2.2.1) (pt_E ve h.2.2.2)) ds _ _ _) fun ks vs δ2 => pr2
  | .callP f perm es, h, δ => by
    refine pt2eta ?_
    simp only [wpE]
    exact pb22 (pt_Es es h δ) fun ds δ1 => pt_call (Γ f) none _ δ1
  | .var _, _, _ => by
    refine pt2eta ?_
    simp only [wpE]
    exact pf2
  | .dget _ _, _, _ => by
    refine pt2eta ?_
    simp only [wpE]
    exact pf2
  | .din _ _ _, _, _ => by
    refine pt2eta ?_
    simp only [wpE]
    exact pf2
  | .ixd _ _, _, _ => by
    refine pt2eta ?_
    simp only [wpE]
    exact pf2
  | .mq _ _ _, _, _ => by
    refine pt2eta ?_
    simp only [wpE]
    exact pf2
  | .xp _, _, _ => by
    refine pt2eta ?_
    simp only [wpE]
    exact pf2
theorem pt_OT : ∀ (t : OT), okOT t → ∀ δ, Pt2 (wpOT Γ t δ)
  | .none, _, δ => by
    refine pt2eta ?_
    simp only [wpOT]
    exact pr2
  | .some t, h, δ => by
    refine pt2eta ?_
    simp only [wpOT]
    exact pt_T t h δ
theorem pt_O : ∀ (o : O), okO o → ∀ δ, Pt2 (wpO Γ o δ)
  | .none, _, δ => by
    refine pt2eta ?_
    simp only [wpO]
    exact pr2
  | .some e, h, δ => by
    refine pt2eta ?_
    simp only [wpO]
    exact pb22 (pt_E e h δ) fun d δ1 => pe2 fun i => pa2 pr2
theorem pt_Es : ∀ (es : Es), okEs es → ∀ δ, Pt2 (wpEs Γ es δ)
  | .nil, _, δ => by
    refine pt2eta ?_
    simp only [wpEs]
    exact pr2
  | .cons e es, h, δ => by
    refine pt2eta ?_
    simp only [wpEs]
    exact pb22 (pt_E e h.1 δ) fun d δ1 => pb22 (pt_Es es h.2 δ1) fun ds δ2 => pr2
  | .consL i es, h, δ => by
    refine pt2eta ?_
    simp only [wpEs]
    exact pa2 (pb22 (pt_Es es h δ) fun ds δ1 => pe2 fun d => pa2 pr2)
theorem pt_T : ∀ (t : T), okT t → ∀ δ, Pt2 (wpT Γ t δ)
  | .pt t, h, δ => by
    refine pt2eta ?_
    simp only [wpT]
    exact pb12 (pt_PT t h δ) fun c => pr2
  | .v e, h, δ => by
    refine pt2eta ?_
    simp only [wpT]
    exact pb22 (pt_E e h δ) fun d δ1 => pb12 (pt_truth d) fun c => pr2
  | .and a b, h, δ => by
    refine pt2eta ?_
    simp only [wpT]
    exact pb22 (pt_T a h.1 δ) fun c δ1 => pi2 (pt_T b h.2 δ1) pr2
  | .or a b, h, δ => by
    refine pt2eta ?_
    simp only [wpT]
    exact pb22 (pt_T a h.1 δ) fun c δ1 => pi2 pr2 (pt_T b h.2 δ1)
  | .not a, h, δ => by
    refine pt2eta ?_
    simp only [wpT]
    exact pb22 (pt_T a h δ) fun c δ1 => pr2
theorem pt_It : ∀ (it : It), okIt it → ∀ δ, Pt2 (wpIt Γ it δ)
  | .seq e, h, δ => by
    refine pt2eta ?_
    simp only [wpIt]
    exact pb22 (pt_E e h δ) fun d δ1 => pb12 (pt_seqD d) fun ds => pr2
  | .rng e, h, δ => by
    refine pt2eta ?_
    simp only [wpIt]
    exact pb22 (pt_E e h δ) fun d δ1 => pe2 fun n => pa2 (pa2 (pa2 pr2))
  | .zip a b, h, δ => by
    refine pt2eta ?_
    simp only [wpIt]
    exact pb22 (pt_E a h.1 δ) fun x δ1 => pb22 (pt_E b h.2 δ1) fun y δ2 => pb12 (pt_seqD x) fun xs => pb12 (pt_seqD y) fun ys => pr2
  | .enum e, h, δ => by
    refine pt2eta ?_
    simp only [wpIt]
    exact pb22 (pt_E e h δ) fun d δ1 => pb12 (pt_seqD d) fun ds => pr2
  | .rng2 es, h, δ => by
    refine pt2eta ?_
    simp only [wpIt]
    exact pb22 (pt_Es es h δ) fun ds δ1 => pb12 (pt_rng2 ds) fun xs => pr2
  | .str e, h, δ => by
    refine pt2eta ?_
    simp only [wpIt]
    exact pb22 (pt_E e h δ) fun d δ1 => pe2 fun x => pa2 pr2
  | .rng3 es, h, δ => by
    refine pt2eta ?_
    simp only [wpIt]
    exact pb22 (pt_Es es h δ) fun ds δ1 => pb12 (pt_rng3 ds) fun xs => pr2
end
theorem pt_callR {x n1 n2 : Str} (ct : Ct) (ds : List D) (δ : Env) {k : (Out → Prop) → D → Env → Prop} (hk : ∀ r δ, Pt (fun Q => k Q r δ)) : Pt (fun Q => callR x n1 n2 ct ds δ Q (k Q)) := by
  refine pe1 fun r => pe1 fun o => pa1 ?_
  cases o with
  | none => exact hk r δ
  | some _ => exact pe1 fun v1 => pe1 fun v2 => pa1 pr1
mutual
theorem pt_S : ∀ (s : S), okS s → ∀ δ, Pt (wpS Γ s δ)
  | .set i e, h, δ => by
    refine pt1eta ?_
    simp only [wpS]
    exact pb21 (pt_E Γ e h δ) fun d δ1 => pr1
  | .asg g e, h, δ => by
    refine pt1eta ?_
    simp only [wpS]
    exact pb21 (pt_E Γ e h δ) fun d δ1 => pb11 (pt_G g d δ1) fun δ2 => pr1
  | .ex e, h, δ => by
    refine pt1eta ?_
    simp only [wpS]
    exact pb21 (pt_E Γ e h δ) fun d δ1 => pr1
  | .setIx i π k e, h, δ => by
    refine pt1eta ?_
    simp only [wpS]
    exact pb21 (pt_E Γ e h.2 δ) fun x δ1 => pe1 fun d => pe1 fun xs => pa1 (pa1 (pb11 (pt_P k h.1 δ1) fun y => pe1 fun n => pe1 fun j => pa1 (pa1 pr1)))
  | .dput i k e, h, δ => by
    refine pt1eta ?_
    simp only [wpS]
    exact pb21 (pt_E Γ e h.2 δ) fun x δ1 => pa1 (pb21 (pt_E Γ k h.1 δ1) fun y δ2 => pe1 fun d => pa1 (pb11 (pt_dput d y x) fun d' => pr1))
  | .par i j a b, h, δ => by
    refine pt1eta ?_
    simp only [wpS]
    exact pb21 (pt_E Γ a h.1 δ) fun x δ1 => pb21 (pt_E Γ b h.2 δ1) fun y δ2 => pr1
  | .par3 i j l a b c, h, δ => by
    refine pt1eta ?_
    simp only [wpS]
    exact pb21 (pt_E Γ a h.1 δ) fun x δ1 => pb21 (pt_E Γ b h.2.1 δ1) fun y δ2 => pb21 (pt_E Γ c h.2.2 δ2) fun z δ3 => pr1
  | .ret e, h, δ => by
    refine pt1eta ?_
    simp only [wpS]
    exact pb21 (pt_E Γ e h δ) fun d δ1 => pr1
  | .setIxL i k e, h, δ => by
    refine pt1eta ?_
    simp only [wpS]
    exact pb21 (pt_E Γ e h.2 δ) fun x δ1 => pa1 (pb21 (pt_E Γ k h.1 δ1) fun y δ2 => pe1 fun xs => pe1 fun n => pe1 fun j => pa1 (pa1 (pa1 pr1)))
  | .rse, _, δ => by
    refine pt1eta ?_
    simp only [wpS]
    exact pf1
  | .rs x n1 n2 a b, h, δ => by
    refine pt1eta ?_
    simp only [wpS]
    exact pb21 (pt_E Γ a h.1 δ) fun y δ1 => pb21 (pt_E Γ b h.2 δ1) fun z δ2 => pe1 fun v1 => pe1 fun v2 => pa1 (pa1 pr1)
  | .setR x n1 n2 i f es, h, δ => by
    refine pt1eta ?_
    simp only [wpS]
    exact pb21 (pt_Es Γ es h δ) fun ds δ1 => pt_callR (Γ f) ds δ1 (k := fun Q r δ2 => Q (.nx (δ2.set i (some r)))) fun r δ2 => pr1
  | .appR x n1 n2 i f es, h, δ => by
    refine pt1eta ?_
    simp only [wpS]
    exact pa1 (pb21 (pt_Es Γ es h δ) fun ds δ1 => pt_callR (Γ f) ds δ1 (k := fun Q r δ2 => ∃ xs, δ2[i]? = some (some (.nd .lst true xs)) ∧ xs.length < sizeLine ∧ Q (.nx (δ2.set i (some (.nd .lst true (xs ++ [r])))))) fun r δ2 => pe1 fun xs => pa1 (pa1 pr1))
  | .exR x n1 n2 f es, h, δ => by
    refine pt1eta ?_
    simp only [wpS]
    exact pb21 (pt_Es Γ es h δ) fun ds δ1 => pt_callR (Γ f) ds δ1 (k := fun Q _ δ2 => Q (.nx δ2)) fun r δ2 => pr1
  | .xs w, h, δ => by
    refine pt1eta ?_
    simp only [wpS]
    exact h.pt δ
  | .brk, _, δ => by
    refine pt1eta ?_
    simp only [wpS]
    exact pr1
  | .cnt, _, δ => by
    refine pt1eta ?_
    simp only [wpS]
    exact pr1
  | .pass, _, δ => by
    refine pt1eta ?_
    simp only [wpS]
    exact pr1
  | .ite t a b, h, δ => by
    refine pt1eta ?_
    simp only [wpS]
    exact pb21 (pt_T Γ t h.1 δ) fun c δ1 => pi1 (pt_Ss a h.2.1 δ1) (pt_Ss b h.2.2 δ1)
  | .whl t b, h, δ => by
    refine pt1eta ?_
    simp only [wpS]
    exact pe1 fun n => pt_whl (pt_T Γ t h.1) (pt_Ss b h.2) n δ
  | .fr g it b, h, δ => by
    refine pt1eta ?_
    simp only [wpS]
    exact pb21 (pt_It Γ it h.1 δ) fun ds δ1 => pt_forW (fun d δ => pb11 (pt_G g d δ) fun δ1 => pt_Ss b h.2 δ1) ds δ1
theorem pt_Ss : ∀ (ss : Ss), okSs ss → ∀ δ, Pt (wpSs Γ ss δ)
  | .nil, _, δ => by
    refine pt1eta ?_
    simp only [wpSs]
    exact pr1
  | .cons s ss, h, δ => by
    refine pt1eta ?_
    simp only [wpSs]
    exact pb11 (pt_S s h.1 δ) fun o => by
        cases o with
        | nx δ1 => exact pt_Ss ss h.2 δ1
        | _ => exact pr1
end
end
/-- a def's promise taken from what its body does: G tells what is good of the result -/
def ctOf (Γ : Nat → Ct) (b : Ss) (n N : Nat) (mp : Option Nat) (G : Ct) : Ct := fun ds r o => ds.length = n ∧ G ds r o ∧ wpSs Γ b (startD N ds) (retW mp r o)
theorem l_ofG {Γ : Nat → Ct} {b : Ss} {n N : Nat} {mp : Option Nat} {G : Ct} : ∀ ds r o, ctOf Γ b n N mp G ds r o → ds.length = n ∧ wpSs Γ b (startD N ds) (retW mp r o) := fun _ _ _ h => ⟨h.1, h.2.2⟩
theorem ctOf_ex {Γ : Nat → Ct} {b : Ss} {n N : Nat} {mp : Option Nat} {G : Ct} {ds : List D} (hb : okSs b) (hl : ds.length = n) (h : wpSs Γ b (startD N ds) (fun out => ∃ r o, G ds r o ∧ retW mp r o out)) : ∃ r o, ctOf Γ b n N mp G ds r o := by
  obtain ⟨out, ⟨r, o, g, q⟩, k⟩ := pt_Ss Γ b hb _ _ h
  exact ⟨r, o, hl, g, k _ q⟩
end Z
set_option Elab.async false
set_option linter.all false
set_option maxRecDepth 100000
set_option autoImplicit false
namespace Z
open PySem PySem.Spec PyProof.Rows L2
/-! ## by value: what the laws' texts share -/
theorem map_toNat_inj : ∀ {a b : List Char}, a.map Char.toNat = b.map Char.toNat → a = b
  | [], [], _ => rfl
  | [], _ :: _, h => by simp at h
  | _ :: _, [], h => by simp at h
  | x :: a, y :: b, h => by
    simp only [List.map_cons, List.cons.injEq] at h
    rw [map_toNat_inj h.2, Char.toNat_inj.mp h.1]
@[simp] theorem ofS_inj {a b : String} : (Str.ofString a = Str.ofString b) = (a = b) := by
  refine propext ⟨fun h => ?_, fun h => by rw [h]⟩
  rw [PySem.Str.ofString_eq_toList, PySem.Str.ofString_eq_toList] at h
  have h := congrArg (fun s => s.cps.toList) h
  simp only at h
  exact String.toList_inj.mp (map_toNat_inj h)
@[simp] theorem inV_s2 {x a b : Str} : inV (.str x) [.str a, .str b] = (decide (a = x) || decide (b = x)) := by
  simp [inV, eqV]
  rfl
@[simp] theorem q_at0 {α : Type} {x : α} {xs : List α} : atI (x :: xs) 0 = some x := atI_nat (j := 0) rfl
@[simp] theorem q_at1 {α : Type} {x y : α} {xs : List α} : atI (x :: y :: xs) 1 = some y := atI_nat (j := 1) rfl
@[simp] theorem q_at2 {α : Type} {x y z : α} {xs : List α} : atI (x :: y :: z :: xs) 2 = some z := atI_nat (j := 2) rfl
@[simp] theorem q_at3 {α : Type} {x y z w : α} {xs : List α} : atI (x :: y :: z :: w :: xs) 3 = some w := atI_nat (j := 3) rfl
@[simp] theorem q_ats0 : atsOf [] = some [] := rfl
@[simp] theorem q_ats1 {v : V} {ds : List D} : atsOf (.at v :: ds) = (atsOf ds).map (v :: ·) := rfl
@[simp] theorem q_flat_s {x : Str} : flatV (.str x) = true := rfl
theorem size2 : 2 ≤ sizeLine := by decide
theorem size3 : 3 ≤ sizeLine := by decide
theorem sizeK : 1000000 < sizeLine := by decide
theorem take_snoc {α : Type} {l : List α} {i : Nat} {x : α} (h : l[i]? = some x) : l.take (0 + i + 1) = l.take i ++ [x] := by rw [Nat.zero_add, List.take_add_one, h]; rfl
theorem log2_of {x k : Nat} (h : x ≤ 2 ^ k) : x.log2 ≤ k := by
  by_cases h0 : x = 0
  · subst h0; simp
  · have : x < 2 ^ (k + 1) := by rw [Nat.pow_succ]; have := Nat.two_pow_pos k; omega
    have := (Nat.log2_lt h0).mpr this
    omega
theorem cmul_of {i j : Int} {a b : Nat} (h1 : i.natAbs ≤ 2 ^ a) (h2 : j.natAbs ≤ 2 ^ b) (h : a + b < 1000000) : CMulW i j := by
  have := log2_of h1
  have := log2_of h2
  unfold CMulW
  omega
theorem atI_iL {m : List Int} {i : Nat} (h : i < m.length) : atI (iL m) (i : Int) = some (.at (.int (m.getD i 0))) := by
  refine atI_nat (j := i) ?_
  rw [List.getElem?_map, List.getD_eq_getElem?_getD, List.getElem?_eq_getElem h]; rfl
theorem getD_mem {α : Type} {l : List α} {i : Nat} {d : α} (h : i < l.length) : l.getD i d ∈ l := by
  rw [List.getD_eq_getElem?_getD, List.getElem?_eq_getElem h]; exact List.getElem_mem h
theorem whl_ind {t : Z.Env → (Bool → Z.Env → Prop) → Prop} {b : Z.Env → (Out → Prop) → Prop} {Q : Out → Prop} (I : Nat → Z.Env → Prop)
    (step : ∀ m δ, I m δ → ∀ K : Z.Env → Prop, (∀ m' δ', m' < m → I m' δ' → K δ') → t δ fun c δ1 => if c = true then b δ1 fun o => match o with
      | .nx δ2 => K δ2
      | .ct δ2 => K δ2
      | .bk δ2 => Q (.nx δ2)
      | .rt r δ2 => Q (.rt r δ2)
      | .xc x fs δ2 => Q (.xc x fs δ2)
    else Q (.nx δ1)) {m : Nat} {δ : Z.Env} (h : I m δ) : ∃ n, whlW t b n δ Q := by
  have key : ∀ n m δ, m < n → I m δ → whlW t b n δ Q := by
    intro n
    induction n with
    | zero => intro m δ h _; omega
    | succ n ih => intro m δ hm hI; exact step m δ hI (fun δ => whlW t b n δ Q) fun m' δ' hlt hI' => ih m' δ' (by omega) hI'
  exact ⟨m + 1, key _ m δ (Nat.lt_succ_self _) h⟩
/-- a comprehension whose turns keep I of what stands by now -/
theorem forC_inv {body : D → Env → (Option D → Env → Prop) → Prop} (I : Nat → List D → Env → Prop) : ∀ (ds : List D) (n : Nat) (acc : List D) (δ : Env) (Q : List D → Env → Prop), I n acc δ → acc.length + ds.length ≤ sizeLine →
    (∀ d ∈ ds, ∀ n acc δ, I n acc δ → ∀ k : Option D → Env → Prop, (∀ x δ', I (n + 1) (acc ++ [x]) δ' → k (some x) δ') → (∀ δ', I (n + 1) acc δ' → k none δ') → body d δ k) → (∀ acc δ, I (n + ds.length) acc δ → Q acc δ) → forC body ds δ acc Q
  | [], n, acc, δ, Q, h, _, _, hq => hq acc δ h
  | d :: ds, n, acc, δ, Q, h, hl, hb, hq => by
    simp only [List.length_cons] at hl
    have hb' := fun d hd => hb d (List.mem_cons_of_mem _ hd)
    refine hb d List.mem_cons_self n acc δ h _ (fun x δ' h' => ⟨by omega, forC_inv I ds (n + 1) _ δ' Q h' (by simp; omega) hb' fun acc δ h => hq acc δ (by rw [List.length_cons, show n + (ds.length + 1) = n + 1 + ds.length by omega]; exact h)⟩) fun δ' h' => forC_inv I ds (n + 1) acc δ' Q h' (by omega) hb' fun acc δ h => hq acc δ (by rw [List.length_cons, show n + (ds.length + 1) = n + 1 + ds.length by omega]; exact h)
theorem forW_brk {body : D → Env → (Out → Prop) → Prop} (I : Nat → Env → Prop) (P : Env → Prop) (Q : Out → Prop) (ds : List D) (n : Nat) (δ : Env) (h0 : I n δ)
    (hb : ∀ (i : Nat) (d : D) (δ : Env), ds[i]? = some d → I (n + i) δ → ∀ k : Out → Prop, (∀ δ', I (n + i + 1) δ' → k (.nx δ')) → (∀ δ', I (n + i + 1) δ' → k (.ct δ')) → (∀ δ', P δ' → k (.bk δ')) → (∀ r δ', Q (.rt r δ') → k (.rt r δ')) → (∀ x fs δ', Q (.xc x fs δ') → k (.xc x fs δ')) → body d δ k)
    (he : ∀ δ, I (n + ds.length) δ → P δ) (hq : ∀ δ, P δ → Q (.nx δ)) : forW body ds δ Q :=
  forW_ix I Q ds n δ h0 (fun i d δ hd hI k k1 k2 k3 k4 k5 => hb i d δ hd hI k k1 k2 (fun δ' hp => k3 δ' (hq δ' hp)) k4 k5) fun δ h => hq δ (he δ h)
@[simp] theorem q_ix0 {n : Nat} : ixN (n + 1) 0 = some 0 := by simp [ixN]
@[simp] theorem q_ix1 {n : Nat} : ixN (n + 2) 1 = some 1 := by simp [ixN]; omega
@[simp] theorem q_ix2 {n : Nat} : ixN (n + 3) 2 = some 2 := by simp [ixN]; omega
@[simp] theorem q_ls {ds : List D} : lstAt [] (.nd .lst true ds) = some ds := rfl
@[simp] theorem q_ls0 {π : List Int} {d : D} {ds : List D} : lstAt (0 :: π) (.nd .lst true (d :: ds)) = lstAt π d := by simp [lstAt]
@[simp] theorem q_pa {d : D} {es : List D} : Z.putAt [] d es = .nd .lst true es := by cases d <;> rfl
@[simp] theorem q_pa0 {π : List Int} {d : D} {ds es : List D} : Z.putAt (0 :: π) (.nd .lst true (d :: ds)) es = .nd .lst true (Z.putAt π d es :: ds) := by simp [Z.putAt]
@[simp] theorem q_slc_s {x : Str} {l h : Option Int} {δ : Z.Env} {Q : D → Z.Env → Prop} : slcW (.at (.str x)) l h δ Q = (x.length ≤ sizeLine ∧ Q (.at (.str (cutS x l h))) δ) := rfl
@[simp] theorem q_seq0 {n : Nat} : seqIndex? 0 (n + 1) = some 0 := by simp [seqIndex?]
/-! ### cuts -/
def tlS : Ss → Ss
  | .cons _ ss => ss
  | .nil => .nil
def hdS : Ss → S
  | .cons s _ => s
  | .nil => .pass
def frB : S → Ss
  | .fr _ _ b => b
  | _ => .nil
def itA : S → Ss
  | .ite _ a _ => a
  | _ => .nil
def itB : S → Ss
  | .ite _ _ b => b
  | _ => .nil
section
variable {Γ : Nat → Ct}
theorem pt_mono {α : Type} {w : (α → Prop) → Prop} (h : Pt w) {Q Q' : α → Prop} (hw : w Q) (hq : ∀ a, Q a → Q' a) : w Q' := let ⟨a, q, k⟩ := h Q hw; k Q' (hq a q)
/-- one statement, and what holds behind it -/
theorem cutS {s : S} {ss : Ss} {δ : Env} {Q : Out → Prop} (P : Env → Prop) (ok : okS s) (h1 : wpS Γ s δ (fun o => ∃ δ', o = .nx δ' ∧ P δ')) (h2 : ∀ δ', P δ' → wpSs Γ ss δ' Q) : wpSs Γ (.cons s ss) δ Q :=
  pt_mono (pt_S Γ s ok δ) h1 fun o ⟨δ', e, h⟩ => by subst e; exact h2 δ' h
/-- .. that may end the def, too -/
theorem cutR {s : S} {ss : Ss} {δ : Env} {Q : Out → Prop} (P : Env → Prop) (ok : okS s) (h1 : wpS Γ s δ (fun o => (∃ δ', o = .nx δ' ∧ P δ') ∨ ((∀ δ', o ≠ .nx δ') ∧ Q o))) (h2 : ∀ δ', P δ' → wpSs Γ ss δ' Q) : wpSs Γ (.cons s ss) δ Q :=
  pt_mono (pt_S Γ s ok δ) h1 fun o h => by
    rcases h with ⟨δ', e, h⟩ | ⟨hn, h⟩
    · subst e; exact h2 δ' h
    · cases o with
      | nx δ' => exact absurd rfl (hn δ')
      | _ => exact h
theorem pt_spl {eo eb : E} (h1 : okE eo) (h2 : okE eb) : Ok2 (splW eo eb) := by
  refine ⟨fun δ => pt2eta ?_⟩
  simp only [splW]
  exact pb12 (pt_P eo h1 δ) fun x => pe2 fun a => pa2 (pb12 (pt_P eb h2 δ) fun y => pe2 fun b => pa2 (pa2 (pa2 pr2)))
theorem pt_ninS {ea eb : E} (h1 : okE ea) (h2 : okE eb) : Ok1 (ninS ea eb) := by
  refine ⟨fun δ => pt1eta ?_⟩
  simp only [ninS, evNinS]
  exact pb11 (pt_P ea h1 δ) fun x => pb11 (pt_P eb h2 δ) fun y => pe1 fun c => pe1 fun z => pa1 (pa1 pr1)
theorem pt_mulS {ea eb : E} (h1 : okE ea) (h2 : okE eb) : Ok1 (mulS ea eb) := by
  refine ⟨fun δ => pt1eta ?_⟩
  simp only [mulS, evMulS]
  exact pb11 (pt_P ea h1 δ) fun x => pb11 (pt_P eb h2 δ) fun y => pe1 fun c => pe1 fun z => pa1 (pa1 (pa1 (pa1 (pa1 pr1))))
theorem pt_crp {c y z : Str} {eo : E} (h1 : okE eo) : Ok1 (crpW c y z eo) := by
  refine ⟨fun δ => pt1eta ?_⟩
  simp only [crpW]
  exact pb11 (pt_P eo h1 δ) fun x => pe1 fun a => pa1 (pa1 (pa1 pr1))
theorem pt_ch {o1 o2 : U2} {a b c : E} (h1 : okE a) (h2 : okE b) (h3 : okE c) : Ok1 (chW o1 o2 a b c) := by
  refine ⟨fun δ => pt1eta ?_⟩
  simp only [chW]
  exact pb11 (pt_P a h1 δ) fun x => pb11 (pt_P b h2 δ) fun y => pb11 (pt_ev2 o1 x y) fun r => pe1 fun t => pa1 (pi1 (pb11 (pt_P c h3 δ) fun z => pt_ev2 o2 y z) pr1)
theorem pt_kg {tab : List (Str × Int)} {ek : E} (h : okE ek) : Ok1 (kgW tab ek) := by
  refine ⟨fun δ => pt1eta ?_⟩
  simp only [kgW]
  exact pb11 (pt_P ek h δ) fun y => pe1 fun z => pa1 pr1
theorem pt_dsp {k1 k2 : Str} {ea eb ek ex : E} (h1 : okE ea) (h2 : okE eb) (h3 : okE ek) (h4 : okE ex) : Ok2 (dspW k1 k2 ea eb ek ex) := by
  refine ⟨fun δ => pt2eta ?_⟩
  simp only [dspW]
  exact pb12 (pt_P ea h1 δ) fun da => pb12 (pt_P eb h2 δ) fun db => pb12 (pt_P ek h3 δ) fun dk => pb12 (pt_P ex h4 δ) fun dx => pe2 fun _ => pe2 fun _ => pe2 fun _ => pe2 fun _ => pa2 (pa2 (pa2 (pa2 pr2)))
theorem pt_mvf {i : Nat} : Ok2 (mvfW i) := by
  refine ⟨fun δ => pt2eta ?_⟩
  simp only [mvfW]
  exact pe2 fun ds => pa2 pr2
theorem pt_rplD {wa we wf : WE} {c y d : Str} {eo : E} (h1 : Ok2 wa) (h2 : Ok2 we) (h3 : okE eo) (h4 : Ok2 wf) : Ok2 (rplDW wa c we eo y d wf) := by
  refine ⟨fun δ => pt2eta ?_⟩
  simp only [rplDW]
  exact pb22 (h1.pt δ) fun xa δ1 => pe2 fun sa => pa2 (pb22 (h2.pt δ1) fun xn δ2 => pe2 fun n => pa2 (pa2 (pa2 (pa2 (pa2 (pb12 (pt_P eo h3 δ2) fun xo => pe2 fun so => pa2 (pb22 (h4.pt δ2) fun xm δ3 => pe2 fun m => pa2 (pa2 (pa2 (pa2 (pa2 (pa2 pr2))))))))))))
theorem pt_E' {e : E} (h : okE e) : Ok2 (wpE Γ e) := ⟨pt_E Γ e h⟩
end
/-! ### equal data -/
mutual
def same : D → D → Bool
  | .at (.int i), .at (.int j) => decide (i = j)
  | .at (.str i), .at (.str j) => decide (i = j)
  | .at (.bl i), .at (.bl j) => decide (i = j)
  | .at .non, .at .non => true
  | .nd .tup _ xs, .nd .tup _ ys => sames xs ys
  | _, _ => false
def sames : List D → List D → Bool
  | [], [] => true
  | x :: xs, y :: ys => same x y && sames xs ys
  | _, _ => false
end
mutual
def szD : D → Nat
  | .at _ => 1
  | .nd _ _ ds => szL ds + 1
def szL : List D → Nat
  | [] => 0
  | d :: ds => szD d + szL ds
end
mutual
theorem same_froz : ∀ x y : D, same x y = true → x.froz = true ∧ y.froz = true
  | .at (.int i), .at (.int j), _ => ⟨rfl, rfl⟩
  | .at (.str i), .at (.str j), _ => ⟨rfl, rfl⟩
  | .at (.bl i), .at (.bl j), _ => ⟨rfl, rfl⟩
  | .at .non, .at .non, _ => ⟨rfl, rfl⟩
  | .nd .tup _ xs, .nd .tup _ ys, h => sames_froz xs ys h
theorem sames_froz : ∀ xs ys : List D, sames xs ys = true → frozL xs = true ∧ frozL ys = true
  | [], [], _ => ⟨rfl, rfl⟩
  | x :: xs, y :: ys, h => by
    simp only [sames, Bool.and_eq_true] at h
    have h1 := same_froz x y h.1
    have h2 := sames_froz xs ys h.2
    simp only [frozL, h1.1, h1.2, h2.1, h2.2, Bool.and_self, and_self]
end
mutual
/-- ints, texts, truths, None, tuples of such -/
def plainD : D → Bool
  | .at (.int _) => true
  | .at (.str _) => true
  | .at (.bl _) => true
  | .at .non => true
  | .nd .tup _ ds => plainDs ds
  | _ => false
def plainDs : List D → Bool
  | [] => true
  | d :: ds => plainD d && plainDs ds
end
mutual
theorem same_self : ∀ x : D, plainD x = true → same x x = true
  | .at (.int _), _ => by simp [same]
  | .at (.str _), _ => by simp [same]
  | .at (.bl _), _ => by simp [same]
  | .at .non, _ => rfl
  | .nd .tup _ ds, h => sames_self ds h
theorem sames_self : ∀ xs : List D, plainDs xs = true → sames xs xs = true
  | [], _ => rfl
  | x :: xs, h => by
    simp only [plainDs, Bool.and_eq_true] at h
    simp only [sames, same_self x h.1, sames_self xs h.2, Bool.and_self]
end
def twD (p : D × D) : D := .nd .tup false [p.1, p.2]
def tot (ws : List (D × D)) : Nat := (ws.map fun p => szD p.2).sum
theorem szD_pos : ∀ d : D, 1 ≤ szD d
  | .at _ => by simp [szD]
  | .nd _ _ ds => by simp [szD]
theorem tot_len : ∀ ws : List (D × D), ws.length ≤ tot ws
  | [] => by simp [tot]
  | p :: ws => by
    have := tot_len ws
    have := szD_pos p.2
    simp only [tot, List.map_cons, List.sum_cons, List.length_cons] at *
    omega
theorem tot_app (a b : List (D × D)) : tot (a ++ b) = tot a + tot b := by simp [tot]
theorem szL_get : ∀ {ds : List D} {i : Nat} {d : D}, ds[i]? = some d → szD d ≤ szL ds
  | d :: ds, 0, e, h => by simp at h; subst h; simp [szL]
  | d :: ds, i + 1, e, h => by have := szL_get (ds := ds) (i := i) (by simpa using h); simp only [szL]; omega
theorem szL_le {k : Nat} : ∀ {ds : List D}, (∀ d ∈ ds, szD d ≤ k) → szL ds ≤ ds.length * k
  | [], _ => by simp [szL]
  | d :: ds, h => by
    have := h d List.mem_cons_self
    have := szL_le (k := k) (ds := ds) fun d hd => h d (List.mem_cons_of_mem _ hd)
    simp only [szL, List.length_cons, Nat.succ_mul]
    omega
theorem sames_len : ∀ {xs ys : List D}, sames xs ys = true → xs.length = ys.length
  | [], [], _ => rfl
  | x :: xs, y :: ys, h => by
    simp only [sames, Bool.and_eq_true] at h
    simp [sames_len h.2]
theorem sames_zip : ∀ {xs ys : List D}, sames xs ys = true → ∀ p ∈ xs.zip ys, same p.1 p.2 = true
  | [], [], _, p, hp => by simp at hp
  | x :: xs, y :: ys, h, p, hp => by
    simp only [sames, Bool.and_eq_true] at h
    rw [List.zip_cons_cons] at hp
    rcases List.mem_cons.mp hp with rfl | hp
    · exact h.1
    · exact sames_zip h.2 p hp
theorem tot_zip : ∀ {xs ys : List D}, xs.length = ys.length → tot (xs.zip ys) = szL ys
  | [], [], _ => rfl
  | x :: xs, y :: ys, h => by
    have := tot_zip (xs := xs) (ys := ys) (by simpa using h)
    simp only [tot, List.zip_cons_cons, List.map_cons, List.sum_cons, szL] at *
    omega
end Z
set_option Elab.async false
set_option linter.all false
set_option maxRecDepth 100000
set_option autoImplicit false
namespace L2
open PySem PySem.Spec PyProof.Rows
/-! ## isinstance(e, D), e the caught exception of class C, which has a dict -/
structure IsX (K : PySem.W.Frag) (C D : Addr) : Prop where
  cl : (PySem.W.clsIn K C).isSome = true
  cA : PySem.W.findIn K (.ref C) "__class__" = some (some (.builtin "object.__class__"))
  gt : PySem.W.specialIn K (.builtin "object.__class__") "__get__" = some (some (.builtin "getset_descriptor.__get__"))
  tk : PySem.W.takesIn K (.builtin "object.__class__") = some true
  ob : PySem.W.mroIn K C (.type "object") = some true
  yes : PySem.W.kitOne K (.ref C) (.ref D) = some true
def rIsX (a D : Addr) (d : Option Addr) : List V → Hp → VK → Prop := fun xs H Q => xs = [.ref a, .ref D] ∧ ∃ dd fs, d = some dd ∧ H dd = some (.xd fs) ∧ Q (.bl true) H
theorem call_isX {X : Cx} {a C D : Addr} {oe : Obj} {d : Option Addr} {pn : List (Addr × Obj)} (T : XfC X.K C) (J : IsX X.K C D) (hz : Zc (.ref C) d oe) (hf : ∃ vs, oe.data = .fields vs) : CallR (X.suite a ((a, oe) :: pn)) (.builtin "isinstance") (rIsX a D d) := by
  intro pins s σ H xs us Q I r h
  obtain ⟨rfl, dd, fs, rfl, hd, q⟩ := h
  cases r with
  | cons rx rr => cases rr with
    | cons ry rr =>
      cases rr
      obtain rfl := rx
      obtain rfl := ry
      have hg := (I.pin (a, oe) (List.mem_append_left _ List.mem_cons_self)).1
      obtain ⟨vs, hv⟩ := hf
      obtain ⟨mA, hns, _⟩ := (show ObjOk X.prog X.w H s.heap dd (.xd fs) from I.hok dd _ hd)
      obtain ⟨od, ho, _⟩ := lookIn_ns hns
      have at_ : PySem.W.InstAt s.heap a oe C (some od) := { at_ := hg, cls := hz.1, no := by unfold PySem.W.notCls; rw [hv] <;> rfl, dict := by rw [hz.2]; exact ho }
      exact PySem.W.kia_one (PySem.W.kitx_exc J.cl T.ga T.gg T.exC J.cA J.gt J.tk J.ob) I.kIn at_ J.yes (by intro z; cases z) fun k => ⟨.bl true, H, I.tok k, rfl, q⟩
end L2
namespace Z
open PySem PySem.Spec PyProof.Rows L2
theorem exm_own {K : PySem.W.Frag} {C : Addr} (h1 : PySem.W.subIn K (.ref C) (.type "BaseException") = some true) (h2 : (PySem.W.clsIn K C).isSome = true) (h3 : PySem.W.typeIn K (.ref C) = some (.type "type")) (h4 : PySem.W.subIn K (.ref C) (.ref C) = some true) : PySem.W.exmOne K (.ref C) (.ref C) = some true := by
  have a : (PySem.W.subIn K (.ref C) (.type "BaseException") == some true) = true := by rw [h1]; rfl
  have b : ((PySem.W.clsIn K C).isSome && PySem.W.typeIn K (.ref C) == some (.type "type")) = true := by rw [h2, h3]; rfl
  show (if (PySem.W.subIn K (.ref C) (.type "BaseException") == some true) = true then (if ((PySem.W.clsIn K C).isSome && PySem.W.typeIn K (.ref C) == some (.type "type")) = true then PySem.W.subIn K (.ref C) (.ref C) else none) else none) = some true
  rw [if_pos a, if_pos b]
  exact h4
/-- a def (n parameters) that hands on what another one gives: what it raises is caught -/
def tSuiteX (C D : Addr) (w f1 f2 : Str) (i : Nat) : Addr → Value → Option Addr → TS := fun a cls d => tRet (tIf (tB (tCB (rIsX a D d) (tCons (tVar i) (tCons (tC (.ref D)) tNil)))) (tTup (tCons (tC (.str w)) (tCons (tXf a cls d C f1 (tVar i)) (tCons (tXf a cls d C f2 (tVar i)) tNil)))) (tTup (tCons (tC (.str "other")) tNil)))
end Z
set_option Elab.async false
set_option linter.all false
set_option maxRecDepth 100000
set_option autoImplicit false
namespace Z
open PySem PySem.Spec PyProof.Rows L2
/-! ## what the head reads off the written part -/
def skB (es : Array DictEntry) : Bool := es.toList.all fun e => match e.key with
  | .str _ _ => true
  | _ => false
theorem nbk_of {K : PySem.W.Frag} {oc : Value} {od : Option Addr} {es : Array DictEntry} {n : Nat} {sl : Array (Option Value)} (h : K.lookup cStatics = some ⟨oc, od, .dict es n, sl⟩) (hs : skB es = true) (hf : (nsFind es sharingNotToldKey).isNone = true) : NBk K := by
  refine ⟨⟨_, es, n, h, rfl, fun e he => ?_, Option.isNone_iff_eq_none.mp hf⟩⟩
  unfold skB at hs
  rw [List.all_eq_true] at hs
  have := hs e (Array.mem_toList_iff.mpr he)
  cases hk : e.key with
  | str a t => exact ⟨a, t, rfl⟩
  | _ => rw [hk] at this; cases this
theorem isx_of {K : PySem.W.Frag} {C D : Addr} (cl : (PySem.W.clsIn K C).isSome = true) (cA : PySem.W.findIn K (.ref C) "__class__" = some (some (.builtin "object.__class__"))) (gt : PySem.W.specialIn K (.builtin "object.__class__") "__get__" = some (some (.builtin "getset_descriptor.__get__")))
    (tk : PySem.W.takesIn K (.builtin "object.__class__") = some true) (ob : PySem.W.mroIn K C (.type "object") = some true) (hd : PySem.W.hasDictIn K D = true) (ty : PySem.W.typeIn K (.ref D) = some (.type "type")) (sb : PySem.W.subIn K (.ref C) (.ref D) = some true) : IsX K C D := by
  refine ⟨cl, cA, gt, tk, ob, ?_⟩
  have hD : (PySem.W.clsIn K D).isSome = true := by
    obtain ⟨cd, h, _⟩ := PySem.W.any_some hd
    rw [h]; rfl
  unfold PySem.W.kitOne
  split
  · rfl
  · show (if ((PySem.W.clsIn K D).isSome && PySem.W.typeIn K (.ref D) == some (.type "type")) = true then PySem.W.subIn K (.ref C) (.ref D) else none) = some true
    have e : (true && (some (Value.type "type") == some (Value.type "type"))) = true := by decide +kernel
    rw [hD, ty, if_pos e, sb]
theorem cls_dict {K : PySem.W.Frag} {D : Addr} (hd : PySem.W.hasDictIn K D = true) : (PySem.W.clsIn K D).isSome = true := by
  obtain ⟨cd, h, _⟩ := PySem.W.any_some hd
  rw [h]; rfl
theorem fund_of {K : PySem.W.Frag} {x : Str} {st : Stmt} {f T : Addr} {oc oT kV doc pm cdv ct : Value} {od dT an : Option Addr} {osl sT : Array (Option Value)} {its : List Value} {n : Nat} {dvs : List V} (hd : dvs ≠ []) (l : K.lookup f = some ⟨oc, od, .func (PySem.W.fnOf x x (defArgs st) (defBody st) (defScope st) (.ref T) kV doc pm an cdv ct), osl⟩) (c : PySem.W.codeIn K cdv x = true) (k : PySem.W.keepIn K (.ref f) = true)
    (lT : K.lookup T = some ⟨oT, dT, .seq its.toArray n, sT⟩) (hv : Vals dvs its) : FunD K x x (defArgs st) (defBody st) (defScope st) dvs [] f (PySem.W.fnOf x x (defArgs st) (defBody st) (defScope st) (.ref T) kV doc pm an cdv ct) :=
  ⟨⟨oc, od, .ref T, kV, doc, pm, an, cdv, ct, osl, rfl, l, c, .inr ⟨hd, T, _, its, n, rfl, lT, rfl, hv⟩, .inl rfl⟩, k⟩
end Z
set_option Elab.async false
set_option linter.all false
set_option maxRecDepth 100000
set_option autoImplicit false
namespace K07
open PySem PySem.Spec PyProof.Rows L2 Z

def topS (i : Nat) : Stmt := PySem.Challenge.pw_keptlazily_k07_script_texts.main.body.getD i (.Pass ⟨0, 0, 0, 0⟩)
def BL : List Str := ["len", "abs", "sum", "isinstance", "sorted", "str", "int", "tuple", "list", "dict", "range", "zip", "enumerate", "bool", "max", "min"]
def FT : List FnI := [⟨"told_lines", 1, none, []⟩,
  ⟨"need_short", 3, none, []⟩,
  ⟨"written_integer", 1, none, []⟩,
  ⟨"script_text", 1, none, [(["script"], [0])]⟩,
  ⟨"read_step", 2, none, []⟩,
  ⟨"read_script", 1, none, []⟩,
  ⟨"_law_tape", 1, none, []⟩,
  ⟨"_law_pick", 2, some 0, []⟩,
  ⟨"_law_same", 2, none, []⟩,
  ⟨"_law_order", 2, some 0, []⟩,
  ⟨"_law_lines", 1, none, []⟩,
  ⟨"_law_integer", 1, none, []⟩,
  ⟨"_law_read", 1, none, []⟩,
  ⟨"_law_called", 1, none, []⟩,
  ⟨"_law_number", 1, some 0, []⟩,
  ⟨"_law_drawn", 1, some 0, []⟩,
  ⟨"_law_loose", 2, some 0, []⟩,
  ⟨"_law_spoilt", 2, some 0, []⟩,
  ⟨"_law_asked", 1, some 0, []⟩,
  ⟨"law", 1, none, []⟩]
/-! told_lines -/
abbrev stold_lines : Stmt := topS 8
def Ntold_lines : List Str := ["text", "lines", "told", "at", "line", "words", "word"]
theorem ctold_lines : FnScope Ntold_lines ["text"] (defScope stold_lines) := ⟨rfl, rfl, rfl, by decide +kernel, rfl, by decide +kernel, by decide +kernel⟩
def btold_lines : Ss := .cons (.set 1 (.xe (splW (.var 0) (.c (.str "\n")))))
 (.cons (.ite (.pt (.v (.b .eq (.b .idx (.var 1) (.u .neg (.c (.int 1)))) (.c (.str ""))))) (.cons (.ex (.mth .pop 1 .nil))
 (.nil)) (.nil))
 (.cons (.set 2 (.lst (.nil)))
 (.cons (.fr (.tup [(.name 3), (.name 4)]) (.enum (.mv 1)) (.cons (.set 5 (.comp [6] (.seq (.xe (splW (.var 4) (.c (.str " "))))) (.name 6) (.some (.pt (.v (.b .ne (.var 6) (.c (.str "")))))) (.pv (.var 6))))
 (.cons (.ite (.pt (.and (.v (.var 5)) (.v (.b .eq (.b .idx (.b .idx (.var 5) (.c (.int 0))) (.c (.int 0))) (.c (.str "#")))))) (.cons (.set 5 (.lst (.nil)))
 (.nil)) (.nil))
 (.cons (.ex (.mth .append 2 (.cons (.tup (.cons (.pv (.b .add (.var 3) (.c (.int 1)))) (.cons (.pv (.var 4)) (.cons (.sh 5) (.nil))))) (.nil))))
 (.nil)))))
 (.cons (.ret (.mv 2))
 (.nil)))))
theorem rtold_lines {X : Cx} {Γ : Nat → Ct} (C : CxD X Ntold_lines (defScope stold_lines) BL FT [] Γ) : ESs X Γ [] (defBody stold_lines) btold_lines :=
 (SS_cons (V_set C 1 (by decide +kernel) (E_split rfl (noLc_base (fun _ _ _ h => by cases h)) rfl (VP_var C.toCxP 0 (by decide +kernel)) P_str) rfl)
 (SS_cons (S_if (T_pt (PT_eq C.toCxP.hu rfl (P_idx rfl (VP_var C.toCxP 1 (by decide +kernel)) (P_neg P_int)) P_str))
 (SS_cons (V_ex (V_pop C.toCxP 1 (by decide +kernel) rfl) rfl)
 SS_nil)
 SS_nil)
 (SS_cons (V_set C 2 (by decide +kernel) (E_lst A_nil) rfl)
 (SS_cons (V_for C (I_enum (C.toCxP.bl (x := "enumerate") (by decide +kernel)) rfl (V_mv C.toCxP 1 (by decide +kernel))) (VG_tup C.toCxP (GS_cons (VG_name C 3 (by decide +kernel)) (GS_cons (VG_name C 4 (by decide +kernel)) GS_nil rfl) rfl) rfl rfl rfl)
 (SS_cons (V_setComp C.toCxP 5 [("word", 6)] (by decide +kernel) (by decide +kernel) (by decide +kernel) rfl rfl (by decide +kernel) (I_seq (E_split rfl (noLc_base (fun _ _ _ h => by cases h)) rfl (VP_var C.toCxP 4 (by decide +kernel)) P_str)) rfl (fun X' C' => (VGc_name C' 6 (by decide +kernel) (by decide +kernel))) (fun X' C' => TS_one (T_pt (PT_ne C'.hu rfl (VP_var C' 6 (by decide +kernel)) P_str))) (fun X' C' => (V_var C' 6 (by decide +kernel))))
 (SS_cons (S_if (T_pt (PT_w (PW_and (PT_v rfl (VP_var C.toCxP 5 (by decide +kernel))) (PW_and1 (PT_eq C.toCxP.hu rfl (P_idx rfl (P_idx rfl (VP_var C.toCxP 5 (by decide +kernel)) P_int) P_int) P_str)))))
 (SS_cons (V_set C 5 (by decide +kernel) (E_lst A_nil) rfl)
 SS_nil)
 SS_nil)
 (SS_cons (V_ex (V_append C.toCxP 2 (by decide +kernel) ⟨rfl⟩ rfl rfl (A_cons rfl (E_tup (A_cons rfl (E_pv (P_add (VP_var C.toCxP 3 (by decide +kernel)) P_int)) (A_cons rfl (V_var C.toCxP 4 (by decide +kernel)) (A_cons rfl (V_sh C.toCxP 5 (by decide +kernel)) A_nil)))) A_nil)) rfl)
 SS_nil))) rfl)
 (SS_cons (S_ret (V_mv C.toCxP 2 (by decide +kernel)))
 SS_nil)))))
/-! need_short -/
abbrev sneed_short : Stmt := topS 9
def Nneed_short : List Str := ["number", "line", "most"]
theorem cneed_short : FnScope Nneed_short ["number", "line", "most"] (defScope sneed_short) := ⟨rfl, rfl, rfl, by decide +kernel, rfl, by decide +kernel, by decide +kernel⟩
def bneed_short : Ss := .cons (.ite (.pt (.or (.v (.b .gt (.u .len (.var 1)) (.c (.int 2000)))) (.v (.b .gt (.var 0) (.var 2))))) (.cons (.rs "BadLine" "line" "word" (.pv (.var 0)) (.c (.str "limit")))
 (.nil)) (.nil))
 (.nil)
theorem rneed_short {X : Cx} {Γ : Nat → Ct} (C : CxD X Nneed_short (defScope sneed_short) BL FT [] Γ) {uLINE_MOST : Value} (gLINE_MOST : X.mg "LINE_MOST" = some uLINE_MOST ∧ RelV (.int 2000) uLINE_MOST) {Cb fI : Addr} {kR : Nat} (gT : ZX.XTxt X.prog X.K X.mg Cb fI) (hR : Room kR X.A) : ESs X Γ [] (defBody sneed_short) bneed_short :=
 (SS_cons (S_if (T_pt (PT_w (PW_or (PT_gt rfl (P_len (C.toCxP.bl (x := "len") (by decide +kernel)) rfl (VP_var C.toCxP 1 (by decide +kernel))) (P_glob (C.toCxP.gl (x := "LINE_MOST") (by decide +kernel)).1 gLINE_MOST.1 gLINE_MOST.2 rfl)) (PW_or1 (PT_gt rfl (VP_var C.toCxP 0 (by decide +kernel)) (VP_var C.toCxP 2 (by decide +kernel)))))))
 (SS_cons (V_rs gT hR C.calm (C.toCxP.gl (x := "BadLine") (by decide +kernel)).1 rfl (A_cons rfl (V_var C.toCxP 0 (by decide +kernel)) (A_cons rfl E_str A_nil)))
 SS_nil)
 SS_nil)
 SS_nil)
/-! written_integer -/
abbrev swritten_integer : Stmt := topS 10
def Nwritten_integer : List Str := ["word", "figures", "sign"]
theorem cwritten_integer : FnScope Nwritten_integer ["word"] (defScope swritten_integer) := ⟨rfl, rfl, rfl, by decide +kernel, rfl, by decide +kernel, by decide +kernel⟩
def bwritten_integer : Ss := .cons (.set 1 (.ite (.v (.b .eq (.slc (.pv (.var 0)) (.none) (.some (.c (.int 1)))) (.c (.str "-")))) (.slc (.pv (.var 0)) (.some (.c (.int 1))) (.none)) (.pv (.var 0))))
 (.cons (.ite (.or (.pt (.not (.v (.var 1)))) (.or (.pt (.v (.b .gt (.u .len (.var 0)) (.c (.int 60))))) (.v (.comp [2] (.str (.pv (.var 1))) (.name 2) (.some (.pt (.v (.xp (ninS (.var 2) (.c (.str "0123456789"))))))) (.pv (.var 2)))))) (.cons (.ret (.c .non))
 (.nil)) (.nil))
 (.cons (.ite (.pt (.and (.v (.b .eq (.b .idx (.var 1) (.c (.int 0))) (.c (.str "0")))) (.v (.b .ne (.var 0) (.c (.str "0")))))) (.cons (.ret (.c .non))
 (.nil)) (.nil))
 (.cons (.ret (.pv (.u .int (.var 0))))
 (.nil))))
theorem rwritten_integer {X : Cx} {Γ : Nat → Ct} (C : CxD X Nwritten_integer (defScope swritten_integer) BL FT [] Γ) {uWRITTEN_MOST : Value} (gWRITTEN_MOST : X.mg "WRITTEN_MOST" = some uWRITTEN_MOST ∧ RelV (.int 60) uWRITTEN_MOST) {uFIGURES : Value} (gFIGURES : X.mg "FIGURES" = some uFIGURES ∧ RelV (.str "0123456789") uFIGURES) : ESs X Γ [] (defBody swritten_integer) bwritten_integer :=
 (SS_cons (V_set C 1 (by decide +kernel) (E_ite (T_eq C.toCxP.hu rfl (E_slc (V_var C.toCxP 0 (by decide +kernel)) O_none (O_some E_int)) E_str) (E_slc (V_var C.toCxP 0 (by decide +kernel)) (O_some E_int) O_none) (V_var C.toCxP 0 (by decide +kernel))) rfl)
 (SS_cons (S_if (T_w (W_or (T_pt (PT_not (PT_v rfl (VP_var C.toCxP 1 (by decide +kernel))))) (W_or (T_pt (PT_gt rfl (P_len (C.toCxP.bl (x := "len") (by decide +kernel)) rfl (VP_var C.toCxP 0 (by decide +kernel))) (P_glob (C.toCxP.gl (x := "WRITTEN_MOST") (by decide +kernel)).1 gWRITTEN_MOST.1 gWRITTEN_MOST.2 rfl))) (W_or1 (T_v rfl (V_compG C.toCxP [("sign", 2)] (by decide +kernel) rfl (I_str (V_var C.toCxP 1 (by decide +kernel))) rfl (fun X' C' => (VGc_name C' 2 (by decide +kernel) (by decide +kernel))) (fun X' hX C' => TS_one (T_pt (PT_ninS rfl (VP_var C' 2 (by decide +kernel)) (P_glob (C'.gl (x := "FIGURES") (by decide +kernel)).1 (by rw [hX]; exact gFIGURES.1) gFIGURES.2 rfl)))) (fun X' hX C' => (V_var C' 2 (by decide +kernel)))))))))
 (SS_cons (S_ret E_non)
 SS_nil)
 SS_nil)
 (SS_cons (S_if (T_pt (PT_w (PW_and (PT_eq C.toCxP.hu rfl (P_idx rfl (VP_var C.toCxP 1 (by decide +kernel)) P_int) P_str) (PW_and1 (PT_ne C.toCxP.hu rfl (VP_var C.toCxP 0 (by decide +kernel)) P_str)))))
 (SS_cons (S_ret E_non)
 SS_nil)
 SS_nil)
 (SS_cons (S_ret (E_pv (P_toInt (C.toCxP.bl (x := "int") (by decide +kernel)) rfl (VP_var C.toCxP 0 (by decide +kernel)))))
 SS_nil))))
/-! script_text -/
abbrev sscript_text : Stmt := topS 12
def Nscript_text : List Str := ["script", "lines", "step", "parts", "end", "number"]
theorem cscript_text : FnScope Nscript_text ["script"] (defScope sscript_text) := ⟨rfl, rfl, rfl, by decide +kernel, rfl, by decide +kernel, by decide +kernel⟩
def bscript_text : Ss := .cons (.set 1 (.lst (.nil)))
 (.cons (.fr (.name 2) (.seq (.pv (.var 0))) (.cons (.set 3 (.cat (.lst (.cons (.pv (.b .idx (.var 2) (.c (.int 0)))) (.cons (.pv (.b .idx (.var 2) (.c (.int 1)))) (.nil)))) (.comp [4] (.seq (.pv (.b .idx (.var 2) (.c (.int 2))))) (.name 4) (.none) (.pv (.u .str (.var 4))))))
 (.cons (.ite (.pt (.v (.b .eq (.b .idx (.var 2) (.c (.int 0))) (.c (.str "do"))))) (.cons (.ex (.mth .extend 3 (.cons (.comp [5] (.seq (.pv (.b .idx (.var 2) (.c (.int 3))))) (.name 5) (.none) (.pv (.u .str (.var 5)))) (.nil))))
 (.nil)) (.nil))
 (.cons (.ex (.mth .append 1 (.cons (.pv (.b .add (.b .join (.c (.str " ")) (.var 3)) (.c (.str "\n")))) (.nil))))
 (.nil)))))
 (.cons (.ret (.pv (.b .join (.c (.str "")) (.var 1))))
 (.nil)))
theorem rscript_text {X : Cx} {Γ : Nat → Ct} (C : CxD X Nscript_text (defScope sscript_text) BL FT [] Γ) : ESs X Γ [] (defBody sscript_text) bscript_text :=
 (SS_cons (V_set C 1 (by decide +kernel) (E_lst A_nil) rfl)
 (SS_cons (V_for C (I_seq (V_var C.toCxP 0 (by decide +kernel))) (VG_name C 2 (by decide +kernel))
 (SS_cons (V_set C 3 (by decide +kernel) (E_cat (E_lst (A_cons rfl (E_pv (P_idx rfl (VP_var C.toCxP 2 (by decide +kernel)) P_int)) (A_cons rfl (E_pv (P_idx rfl (VP_var C.toCxP 2 (by decide +kernel)) P_int)) A_nil))) (V_comp C.toCxP [("end", 4)] (by decide +kernel) rfl (I_seq (E_pv (P_idx rfl (VP_var C.toCxP 2 (by decide +kernel)) P_int))) rfl (fun X' C' => (VGc_name C' 4 (by decide +kernel) (by decide +kernel))) (fun X' C' => TS_none) (fun X' C' => (E_pv (P_toStr (C'.bl (x := "str") (by decide +kernel)) rfl (VP_var C' 4 (by decide +kernel))))))) rfl)
 (SS_cons (S_if (T_pt (PT_eq C.toCxP.hu rfl (P_idx rfl (VP_var C.toCxP 2 (by decide +kernel)) P_int) P_str))
 (SS_cons (V_ex (V_extend C.toCxP 3 (by decide +kernel) ⟨rfl⟩ rfl rfl (A_cons rfl (V_comp C.toCxP [("number", 5)] (by decide +kernel) rfl (I_seq (E_pv (P_idx rfl (VP_var C.toCxP 2 (by decide +kernel)) P_int))) rfl (fun X' C' => (VGc_name C' 5 (by decide +kernel) (by decide +kernel))) (fun X' C' => TS_none) (fun X' C' => (E_pv (P_toStr (C'.bl (x := "str") (by decide +kernel)) rfl (VP_var C' 5 (by decide +kernel)))))) A_nil)) rfl)
 SS_nil)
 SS_nil)
 (SS_cons (V_ex (V_append C.toCxP 1 (by decide +kernel) ⟨rfl⟩ rfl rfl (A_cons rfl (E_pv (P_add (P_join rfl (noLc_base (fun _ _ _ h => by cases h)) rfl rfl (VP_var C.toCxP 3 (by decide +kernel))) P_str)) A_nil)) rfl)
 SS_nil))) rfl)
 (SS_cons (S_ret (E_pv (P_join rfl (noLc_base (fun _ _ _ h => by cases h)) rfl rfl (VP_var C.toCxP 1 (by decide +kernel)))))
 SS_nil)))
/-! read_step -/
abbrev sread_step : Stmt := topS 13
def Nread_step : List Str := ["number", "words", "told", "word"]
theorem cread_step : FnScope Nread_step ["number", "words"] (defScope sread_step) := ⟨rfl, rfl, rfl, by decide +kernel, rfl, by decide +kernel, by decide +kernel⟩
def bread_step : Ss := .cons (.ite (.or (.v (.b .notin (.pv (.b .idx (.var 1) (.c (.int 0)))) (.tup (.cons (.c (.str "do")) (.cons (.c (.str "ask")) (.nil)))))) (.or (.pt (.v (.b .lt (.u .len (.var 1)) (.c (.int 4))))) (.pt (.and (.v (.b .eq (.b .idx (.var 1) (.c (.int 0))) (.c (.str "ask")))) (.v (.b .gt (.u .len (.var 1)) (.c (.int 4)))))))) (.cons (.rs "BadLine" "line" "word" (.pv (.var 0)) (.c (.str "words")))
 (.nil)) (.nil))
 (.cons (.set 2 (.comp [3] (.seq (.slc (.pv (.var 1)) (.some (.c (.int 2))) (.none))) (.name 3) (.none) (.call 2 (.cons (.pv (.var 3)) (.nil)) none)))
 (.cons (.ite (.v (.b .isin (.c .non) (.sh 2))) (.cons (.rs "BadLine" "line" "word" (.pv (.var 0)) (.c (.str "integer")))
 (.nil)) (.nil))
 (.cons (.ite (.pt (.v (.b .eq (.b .idx (.var 1) (.c (.int 0))) (.c (.str "ask"))))) (.cons (.ret (.tup (.cons (.c (.str "ask")) (.cons (.pv (.b .idx (.var 1) (.c (.int 1)))) (.cons (.av .tupleOf (.var 2)) (.nil))))))
 (.nil)) (.nil))
 (.cons (.ret (.tup (.cons (.c (.str "do")) (.cons (.pv (.b .idx (.var 1) (.c (.int 1)))) (.cons (.a1 .tupleOf (.slc (.sh 2) (.none) (.some (.c (.int 2))))) (.cons (.a1 .tupleOf (.slc (.sh 2) (.some (.c (.int 2))) (.none))) (.nil)))))))
 (.nil)))))
theorem rread_step {X : Cx} {Γ : Nat → Ct} (C : CxD X Nread_step (defScope sread_step) BL FT [2] Γ) {Cb fI : Addr} {kR : Nat} (gT : ZX.XTxt X.prog X.K X.mg Cb fI) (hR : Room kR X.A) : ESs X Γ [] (defBody sread_step) bread_step :=
 (SS_cons (S_if (T_w (W_or (T_notin rfl (E_pv (P_idx rfl (VP_var C.toCxP 1 (by decide +kernel)) P_int)) (E_tup (A_cons rfl E_str (A_cons rfl E_str A_nil)))) (W_or (T_pt (PT_lt rfl (P_len (C.toCxP.bl (x := "len") (by decide +kernel)) rfl (VP_var C.toCxP 1 (by decide +kernel))) P_int)) (W_or1 (T_pt (PT_w (PW_and (PT_eq C.toCxP.hu rfl (P_idx rfl (VP_var C.toCxP 1 (by decide +kernel)) P_int) P_str) (PW_and1 (PT_gt rfl (P_len (C.toCxP.bl (x := "len") (by decide +kernel)) rfl (VP_var C.toCxP 1 (by decide +kernel))) P_int)))))))))
 (SS_cons (V_rs gT hR C.calm (C.toCxP.gl (x := "BadLine") (by decide +kernel)).1 rfl (A_cons rfl (V_var C.toCxP 0 (by decide +kernel)) (A_cons rfl E_str A_nil)))
 SS_nil)
 SS_nil)
 (SS_cons (V_setComp C.toCxP 2 [("word", 3)] (by decide +kernel) (by decide +kernel) (by decide +kernel) rfl rfl (by decide +kernel) (I_seq (E_slc (V_var C.toCxP 1 (by decide +kernel)) (O_some E_int) O_none)) rfl (fun X' C' => (VGc_name C' 3 (by decide +kernel) (by decide +kernel))) (fun X' C' => TS_none) (fun X' C' => (V_call C' 2 none _ rfl (by decide) rfl (by decide +kernel) rfl (fun _ _ h => nomatch h) (A_cons rfl (V_var C' 3 (by decide +kernel)) A_nil))))
 (SS_cons (S_if (T_in rfl E_non (V_sh C.toCxP 2 (by decide +kernel)))
 (SS_cons (V_rs gT hR C.calm (C.toCxP.gl (x := "BadLine") (by decide +kernel)).1 rfl (A_cons rfl (V_var C.toCxP 0 (by decide +kernel)) (A_cons rfl E_str A_nil)))
 SS_nil)
 SS_nil)
 (SS_cons (S_if (T_pt (PT_eq C.toCxP.hu rfl (P_idx rfl (VP_var C.toCxP 1 (by decide +kernel)) P_int) P_str))
 (SS_cons (S_ret (E_tup (A_cons rfl E_str (A_cons rfl (E_pv (P_idx rfl (VP_var C.toCxP 1 (by decide +kernel)) P_int)) (A_cons rfl (E_tupleOfV (C.toCxP.bl (x := "tuple") (by decide +kernel)) rfl (VP_var C.toCxP 2 (by decide +kernel))) A_nil)))))
 SS_nil)
 SS_nil)
 (SS_cons (S_ret (E_tup (A_cons rfl E_str (A_cons rfl (E_pv (P_idx rfl (VP_var C.toCxP 1 (by decide +kernel)) P_int)) (A_cons rfl (E_tupleOf (C.toCxP.bl (x := "tuple") (by decide +kernel)) rfl (E_slc (V_sh C.toCxP 2 (by decide +kernel)) O_none (O_some E_int))) (A_cons rfl (E_tupleOf (C.toCxP.bl (x := "tuple") (by decide +kernel)) rfl (E_slc (V_sh C.toCxP 2 (by decide +kernel)) (O_some E_int) O_none)) A_nil))))))
 SS_nil)))))
/-! read_script -/
abbrev sread_script : Stmt := topS 14
def Nread_script : List Str := ["text", "told", "number", "line", "words"]
theorem cread_script : FnScope Nread_script ["text"] (defScope sread_script) := ⟨rfl, rfl, rfl, by decide +kernel, rfl, by decide +kernel, by decide +kernel⟩
def bread_script : Ss := .cons (.set 1 (.lst (.nil)))
 (.cons (.fr (.tup [(.name 2), (.name 3), (.name 4)]) (.seq (.call 0 (.cons (.pv (.var 0)) (.nil)) none)) (.cons (.exR "BadLine" "line" "word" 1 (.cons (.pv (.var 2)) (.cons (.pv (.var 3)) (.nil))))
 (.cons (.ite (.pt (.v (.var 4))) (.cons (.appR "BadLine" "line" "word" 1 4 (.cons (.pv (.var 2)) (.cons (.pv (.var 4)) (.nil))))
 (.nil)) (.nil))
 (.nil))))
 (.cons (.ret (.av .tupleX (.var 1)))
 (.nil)))
theorem rread_script {X : Cx} {Γ : Nat → Ct} (C : CxD X Nread_script (defScope sread_script) BL FT [0] Γ) (gneed_short : FnRXD X "need_short" 2 "BadLine" "line" "word" (Γ 1)) (gread_step : FnRX X "read_step" 2 "BadLine" "line" "word" (Γ 4)) : ESs X Γ [] (defBody sread_script) bread_script :=
 (SS_cons (V_set C 1 (by decide +kernel) (E_lst A_nil) rfl)
 (SS_cons (V_for C (I_seq (V_call C.toCxP 0 none _ rfl (by decide) rfl (by decide +kernel) rfl (fun _ _ h => nomatch h) (A_cons rfl (V_var C.toCxP 0 (by decide +kernel)) A_nil))) (VG_tup C.toCxP (GS_cons (VG_name C 2 (by decide +kernel)) (GS_cons (VG_name C 3 (by decide +kernel)) (GS_cons (VG_name C 4 (by decide +kernel)) GS_nil rfl) rfl) rfl) rfl rfl rfl)
 (SS_cons (V_exRD C 1 gneed_short (C.toCxP.gl (x := "need_short") (by decide +kernel)).1 (C.toCxP.gl (x := "need_short") (by decide +kernel)).2 rfl (A_cons rfl (V_var C.toCxP 2 (by decide +kernel)) (A_cons rfl (V_var C.toCxP 3 (by decide +kernel)) A_nil)))
 (SS_cons (S_if (T_pt (PT_v rfl (VP_var C.toCxP 4 (by decide +kernel))))
 (SS_cons (V_appR C 1 4 gread_step (by decide +kernel) (C.toCxP.gl (x := "read_step") (by decide +kernel)).1 (C.toCxP.gl (x := "read_step") (by decide +kernel)).2 ⟨rfl⟩ rfl rfl (A_cons rfl (V_var C.toCxP 2 (by decide +kernel)) (A_cons rfl (V_var C.toCxP 4 (by decide +kernel)) A_nil)))
 SS_nil)
 SS_nil)
 SS_nil)) rfl)
 (SS_cons (S_ret (E_tupleXV (C.toCxP.bl (x := "tuple") (by decide +kernel)) rfl (VP_var C.toCxP 1 (by decide +kernel))))
 SS_nil)))
/-! _law_tape -/
abbrev s_law_tape : Stmt := topS 16
def N_law_tape : List Str := ["script", "numbers", "mixed", "cell", "size", "turn", "turned"]
theorem c_law_tape : FnScope N_law_tape ["script"] (defScope s_law_tape) := ⟨rfl, rfl, rfl, by decide +kernel, rfl, by decide +kernel, by decide +kernel⟩
def b_law_tape : Ss := .cons (.set 1 (.lst (.nil)))
 (.cons (.set 2 (.c (.int 98947)))
 (.cons (.fr (.name 3) (.seq (.slc (.pv (.var 0)) (.none) (.some (.c (.int 63))))) (.cons (.set 4 (.pv (.b .mod (.u .abs (.u .int (.var 3))) (.b .shl (.c (.int 1)) (.c (.int 2000))))))
 (.cons (.set 2 (.pv (.b .mod (.u .int (.b .add (.b .add (.b .mul (.var 2) (.c (.int 40014))) (.b .mod (.var 4) (.c (.int 2147483489)))) (.c (.int 93)))) (.c (.int 2147483563)))))
 (.cons (.ite (.pt (.v (.b .ge (.var 4) (.b .pow (.c (.int 10)) (.c (.int 18)))))) (.cons (.fr (.name 5) (.rng (.c (.int 60))) (.cons (.ite (.pt (.v (.b .eq (.var 4) (.c (.int 0))))) (.cons (.brk)
 (.nil)) (.nil))
 (.cons (.ex (.mth .append 1 (.cons (.pv (.u .int (.b .mod (.var 4) (.c (.int 5040))))) (.nil))))
 (.cons (.set 4 (.pv (.b .fdiv (.var 4) (.c (.int 5040)))))
 (.nil)))))
 (.nil)) (.cons (.set 6 (.pv (.b .mod (.u .int (.b .add (.b .mul (.var 2) (.c (.int 48271))) (.c (.int 1733)))) (.c (.int 2147483629)))))
 (.cons (.ex (.mth .append 1 (.cons (.pv (.u .int (.b .fdiv (.var 6) (.c (.int 43))))) (.nil))))
 (.cons (.ex (.mth .append 1 (.cons (.pv (.u .int (.b .fdiv (.b .mod (.u .int (.b .add (.b .mul (.var 6) (.c (.int 40014))) (.c (.int 11)))) (.c (.int 2147483563))) (.c (.int 59))))) (.nil))))
 (.nil)))))
 (.nil)))))
 (.cons (.ret (.lst (.cons (.mv 1) (.cons (.c (.int 0)) (.cons (.pv (.var 2)) (.nil))))))
 (.nil))))
theorem r_law_tape {X : Cx} {Γ : Nat → Ct} (C : CxD X N_law_tape (defScope s_law_tape) BL FT [] Γ) : ESs X Γ [] (defBody s_law_tape) b_law_tape :=
 (SS_cons (V_set C 1 (by decide +kernel) (E_lst A_nil) rfl)
 (SS_cons (V_set C 2 (by decide +kernel) E_int rfl)
 (SS_cons (V_for C (I_seq (E_slc (V_var C.toCxP 0 (by decide +kernel)) O_none (O_some E_int))) (VG_name C 3 (by decide +kernel))
 (SS_cons (V_set C 4 (by decide +kernel) (E_pv (P_mod (P_abs (C.toCxP.bl (x := "abs") (by decide +kernel)) rfl (P_toInt (C.toCxP.bl (x := "int") (by decide +kernel)) rfl (VP_var C.toCxP 3 (by decide +kernel)))) (P_shl P_int P_int))) rfl)
 (SS_cons (V_set C 2 (by decide +kernel) (E_pv (P_mod (P_toInt (C.toCxP.bl (x := "int") (by decide +kernel)) rfl (P_add (P_add (P_mul (VP_var C.toCxP 2 (by decide +kernel)) P_int) (P_mod (VP_var C.toCxP 4 (by decide +kernel)) P_int)) P_int)) P_int)) rfl)
 (SS_cons (S_if (T_pt (PT_ge rfl (VP_var C.toCxP 4 (by decide +kernel)) (P_pow P_int P_int)))
 (SS_cons (V_for C (I_rng (C.toCxP.bl (x := "range") (by decide +kernel)) rfl E_int) (VG_name C 5 (by decide +kernel))
 (SS_cons (S_if (T_pt (PT_eq C.toCxP.hu rfl (VP_var C.toCxP 4 (by decide +kernel)) P_int))
 (SS_cons S_brk
 SS_nil)
 SS_nil)
 (SS_cons (V_ex (V_append C.toCxP 1 (by decide +kernel) ⟨rfl⟩ rfl rfl (A_cons rfl (E_pv (P_toInt (C.toCxP.bl (x := "int") (by decide +kernel)) rfl (P_mod (VP_var C.toCxP 4 (by decide +kernel)) P_int))) A_nil)) rfl)
 (SS_cons (V_set C 4 (by decide +kernel) (E_pv (P_fdiv (VP_var C.toCxP 4 (by decide +kernel)) P_int)) rfl)
 SS_nil))) rfl)
 SS_nil)
 (SS_cons (V_set C 6 (by decide +kernel) (E_pv (P_mod (P_toInt (C.toCxP.bl (x := "int") (by decide +kernel)) rfl (P_add (P_mul (VP_var C.toCxP 2 (by decide +kernel)) P_int) P_int)) P_int)) rfl)
 (SS_cons (V_ex (V_append C.toCxP 1 (by decide +kernel) ⟨rfl⟩ rfl rfl (A_cons rfl (E_pv (P_toInt (C.toCxP.bl (x := "int") (by decide +kernel)) rfl (P_fdiv (VP_var C.toCxP 6 (by decide +kernel)) P_int))) A_nil)) rfl)
 (SS_cons (V_ex (V_append C.toCxP 1 (by decide +kernel) ⟨rfl⟩ rfl rfl (A_cons rfl (E_pv (P_toInt (C.toCxP.bl (x := "int") (by decide +kernel)) rfl (P_fdiv (P_mod (P_toInt (C.toCxP.bl (x := "int") (by decide +kernel)) rfl (P_add (P_mul (VP_var C.toCxP 6 (by decide +kernel)) P_int) P_int)) P_int) P_int))) A_nil)) rfl)
 SS_nil))))
 SS_nil))) rfl)
 (SS_cons (S_ret (E_lst (A_cons rfl (V_mv C.toCxP 1 (by decide +kernel)) (A_cons rfl E_int (A_cons rfl (V_var C.toCxP 2 (by decide +kernel)) A_nil)))))
 SS_nil))))
/-! _law_pick -/
abbrev s_law_pick : Stmt := topS 17
def N_law_pick : List Str := ["tape", "many"]
theorem c_law_pick : FnScope N_law_pick ["tape", "many"] (defScope s_law_pick) := ⟨rfl, rfl, rfl, by decide +kernel, rfl, by decide +kernel, by decide +kernel⟩
def b_law_pick : Ss := .cons (.setIx 0 [] (.c (.int 1)) (.pv (.b .add (.b .idx (.var 0) (.c (.int 1))) (.c (.int 1)))))
 (.cons (.ite (.pt (.v (.b .le (.b .idx (.var 0) (.c (.int 1))) (.u .len (.b .idx (.var 0) (.c (.int 0))))))) (.cons (.ret (.pv (.u .int (.b .mod (.b .idx (.b .idx (.var 0) (.c (.int 0))) (.b .sub (.b .idx (.var 0) (.c (.int 1))) (.c (.int 1)))) (.var 1)))))
 (.nil)) (.nil))
 (.cons (.setIx 0 [] (.c (.int 2)) (.pv (.b .mod (.u .int (.b .add (.b .mul (.b .idx (.var 0) (.c (.int 2))) (.c (.int 48271))) (.c (.int 1733)))) (.c (.int 2147483629)))))
 (.cons (.ret (.pv (.u .int (.b .mod (.b .fdiv (.b .idx (.var 0) (.c (.int 2))) (.c (.int 61))) (.var 1)))))
 (.nil))))
theorem r_law_pick {X : Cx} {Γ : Nat → Ct} (C : CxD X N_law_pick (defScope s_law_pick) BL FT [] Γ) : ESs X Γ [0] (defBody s_law_pick) b_law_pick :=
 (SS_cons (V_setIx C.toCxP 0 (VQ_0 C.toCxP 0 (by decide +kernel)) P_int (E_pv (P_add (P_idx rfl (VP_var C.toCxP 0 (by decide +kernel)) P_int) P_int)) rfl rfl rfl (fun _ => rfl))
 (SS_cons (S_if (T_pt (PT_le rfl (P_idx rfl (VP_var C.toCxP 0 (by decide +kernel)) P_int) (P_len (C.toCxP.bl (x := "len") (by decide +kernel)) rfl (P_idx rfl (VP_var C.toCxP 0 (by decide +kernel)) P_int))))
 (SS_cons (S_ret (E_pv (P_toInt (C.toCxP.bl (x := "int") (by decide +kernel)) rfl (P_mod (P_idx rfl (P_idx rfl (VP_var C.toCxP 0 (by decide +kernel)) P_int) (P_sub (P_idx rfl (VP_var C.toCxP 0 (by decide +kernel)) P_int) P_int)) (VP_var C.toCxP 1 (by decide +kernel))))))
 SS_nil)
 SS_nil)
 (SS_cons (V_setIx C.toCxP 0 (VQ_0 C.toCxP 0 (by decide +kernel)) P_int (E_pv (P_mod (P_toInt (C.toCxP.bl (x := "int") (by decide +kernel)) rfl (P_add (P_mul (P_idx rfl (VP_var C.toCxP 0 (by decide +kernel)) P_int) P_int) P_int)) P_int)) rfl rfl rfl (fun _ => rfl))
 (SS_cons (S_ret (E_pv (P_toInt (C.toCxP.bl (x := "int") (by decide +kernel)) rfl (P_mod (P_fdiv (P_idx rfl (VP_var C.toCxP 0 (by decide +kernel)) P_int) P_int) (VP_var C.toCxP 1 (by decide +kernel))))))
 SS_nil))))
/-! _law_same -/
abbrev s_law_same : Stmt := topS 18
def N_law_same : List Str := ["told", "due", "line", "one", "other", "k"]
theorem c_law_same : FnScope N_law_same ["told", "due"] (defScope s_law_same) := ⟨rfl, rfl, rfl, by decide +kernel, rfl, by decide +kernel, by decide +kernel⟩
def b_law_same : Ss := .cons (.set 2 (.lst (.cons (.tup (.cons (.pv (.var 0)) (.cons (.pv (.var 1)) (.nil)))) (.nil))))
 (.cons (.whl (.pt (.v (.b .gt (.u .len (.var 2)) (.c (.int 0))))) (.cons (.asg (.tup [(.name 3), (.name 4)]) (.mth .pop 2 .nil))
 (.cons (.ite (.pt (.v (.u .isNon (.var 4)))) (.cons (.ite (.pt (.v (.u .isNotNon (.var 3)))) (.cons (.ret (.c (.bl false)))
 (.nil)) (.nil))
 (.nil)) (.cons (.ite (.pt (.v (.u (.isi [.bool]) (.var 4)))) (.cons (.ite (.pt (.or (.not (.v (.u (.isi [.bool]) (.var 3)))) (.v (.b .ne (.var 3) (.var 4))))) (.cons (.ret (.c (.bl false)))
 (.nil)) (.nil))
 (.nil)) (.cons (.ite (.pt (.v (.u (.isi [.int]) (.var 4)))) (.cons (.ite (.pt (.or (.not (.v (.u (.isi [.int]) (.var 3)))) (.or (.v (.u (.isi [.bool]) (.var 3))) (.v (.b .ne (.var 3) (.var 4)))))) (.cons (.ret (.c (.bl false)))
 (.nil)) (.nil))
 (.nil)) (.cons (.ite (.pt (.v (.u (.isi [.str]) (.var 4)))) (.cons (.ite (.pt (.or (.not (.v (.u (.isi [.str]) (.var 3)))) (.v (.b .ne (.var 3) (.var 4))))) (.cons (.ret (.c (.bl false)))
 (.nil)) (.nil))
 (.nil)) (.cons (.ite (.pt (.or (.and (.v (.u (.isi [.tuple]) (.var 4))) (.not (.v (.u (.isi [.tuple]) (.var 3))))) (.and (.v (.u (.isi [.list]) (.var 4))) (.not (.v (.u (.isi [.list]) (.var 3))))))) (.cons (.ret (.c (.bl false)))
 (.nil)) (.nil))
 (.cons (.ite (.pt (.v (.b .ne (.u .len (.var 3)) (.u .len (.var 4))))) (.cons (.ret (.c (.bl false)))
 (.nil)) (.nil))
 (.cons (.ex (.mth .extend 2 (.cons (.comp [5] (.rng (.pv (.u .len (.var 4)))) (.name 5) (.none) (.tup (.cons (.pv (.b .idx (.var 3) (.var 5))) (.cons (.pv (.b .idx (.var 4) (.var 5))) (.nil))))) (.nil))))
 (.nil)))))
 (.nil)))
 (.nil)))
 (.nil)))
 (.nil))))
 (.cons (.ret (.c (.bl true)))
 (.nil)))
theorem r_law_same {X : Cx} {Γ : Nat → Ct} (C : CxD X N_law_same (defScope s_law_same) BL FT [] Γ) : ESs X Γ [] (defBody s_law_same) b_law_same :=
 (SS_cons (V_set C 2 (by decide +kernel) (E_lst (A_cons rfl (E_tup (A_cons rfl (V_var C.toCxP 0 (by decide +kernel)) (A_cons rfl (V_var C.toCxP 1 (by decide +kernel)) A_nil))) A_nil)) rfl)
 (SS_cons (V_while C (T_pt (PT_gt rfl (P_len (C.toCxP.bl (x := "len") (by decide +kernel)) rfl (VP_var C.toCxP 2 (by decide +kernel))) P_int))
 (SS_cons (V_asg C.toCxP (V_pop C.toCxP 2 (by decide +kernel) rfl) (VG_tup C.toCxP (GS_cons (VG_name C 3 (by decide +kernel)) (GS_cons (VG_name C 4 (by decide +kernel)) GS_nil rfl) rfl) rfl rfl rfl) rfl rfl rfl)
 (SS_cons (S_if (T_pt (PT_isNon rfl (VP_var C.toCxP 4 (by decide +kernel))))
 (SS_cons (S_if (T_pt (PT_isNotNon rfl (VP_var C.toCxP 3 (by decide +kernel))))
 (SS_cons (S_ret E_bl)
 SS_nil)
 SS_nil)
 SS_nil)
 (SS_cons (S_if (T_pt (PT_v rfl (P_isi (t := .bool) (C.toCxP.bl (x := "isinstance") (by decide +kernel)) (C.toCxP.bl (x := "bool") (by decide +kernel)) bn_bool (nm _ (by decide +kernel)) (by decide +kernel) rfl (VP_var C.toCxP 4 (by decide +kernel)))))
 (SS_cons (S_if (T_pt (PT_w (PW_or (PT_not (PT_v rfl (P_isi (t := .bool) (C.toCxP.bl (x := "isinstance") (by decide +kernel)) (C.toCxP.bl (x := "bool") (by decide +kernel)) bn_bool (nm _ (by decide +kernel)) (by decide +kernel) rfl (VP_var C.toCxP 3 (by decide +kernel))))) (PW_or1 (PT_ne C.toCxP.hu rfl (VP_var C.toCxP 3 (by decide +kernel)) (VP_var C.toCxP 4 (by decide +kernel)))))))
 (SS_cons (S_ret E_bl)
 SS_nil)
 SS_nil)
 SS_nil)
 (SS_cons (S_if (T_pt (PT_v rfl (P_isi (t := .int) (C.toCxP.bl (x := "isinstance") (by decide +kernel)) (C.toCxP.bl (x := "int") (by decide +kernel)) bn_int (nm _ (by decide +kernel)) (by decide +kernel) rfl (VP_var C.toCxP 4 (by decide +kernel)))))
 (SS_cons (S_if (T_pt (PT_w (PW_or (PT_not (PT_v rfl (P_isi (t := .int) (C.toCxP.bl (x := "isinstance") (by decide +kernel)) (C.toCxP.bl (x := "int") (by decide +kernel)) bn_int (nm _ (by decide +kernel)) (by decide +kernel) rfl (VP_var C.toCxP 3 (by decide +kernel))))) (PW_or (PT_v rfl (P_isi (t := .bool) (C.toCxP.bl (x := "isinstance") (by decide +kernel)) (C.toCxP.bl (x := "bool") (by decide +kernel)) bn_bool (nm _ (by decide +kernel)) (by decide +kernel) rfl (VP_var C.toCxP 3 (by decide +kernel)))) (PW_or1 (PT_ne C.toCxP.hu rfl (VP_var C.toCxP 3 (by decide +kernel)) (VP_var C.toCxP 4 (by decide +kernel))))))))
 (SS_cons (S_ret E_bl)
 SS_nil)
 SS_nil)
 SS_nil)
 (SS_cons (S_if (T_pt (PT_v rfl (P_isi (t := .str) (C.toCxP.bl (x := "isinstance") (by decide +kernel)) (C.toCxP.bl (x := "str") (by decide +kernel)) bn_str (nm _ (by decide +kernel)) (by decide +kernel) rfl (VP_var C.toCxP 4 (by decide +kernel)))))
 (SS_cons (S_if (T_pt (PT_w (PW_or (PT_not (PT_v rfl (P_isi (t := .str) (C.toCxP.bl (x := "isinstance") (by decide +kernel)) (C.toCxP.bl (x := "str") (by decide +kernel)) bn_str (nm _ (by decide +kernel)) (by decide +kernel) rfl (VP_var C.toCxP 3 (by decide +kernel))))) (PW_or1 (PT_ne C.toCxP.hu rfl (VP_var C.toCxP 3 (by decide +kernel)) (VP_var C.toCxP 4 (by decide +kernel)))))))
 (SS_cons (S_ret E_bl)
 SS_nil)
 SS_nil)
 SS_nil)
 (SS_cons (S_if (T_pt (PT_w (PW_or (PT_w (PW_and (PT_v rfl (P_isi (t := .tuple) (C.toCxP.bl (x := "isinstance") (by decide +kernel)) (C.toCxP.bl (x := "tuple") (by decide +kernel)) bn_tuple (nm _ (by decide +kernel)) (by decide +kernel) rfl (VP_var C.toCxP 4 (by decide +kernel)))) (PW_and1 (PT_not (PT_v rfl (P_isi (t := .tuple) (C.toCxP.bl (x := "isinstance") (by decide +kernel)) (C.toCxP.bl (x := "tuple") (by decide +kernel)) bn_tuple (nm _ (by decide +kernel)) (by decide +kernel) rfl (VP_var C.toCxP 3 (by decide +kernel)))))))) (PW_or1 (PT_w (PW_and (PT_v rfl (P_isi (t := .list) (C.toCxP.bl (x := "isinstance") (by decide +kernel)) (C.toCxP.bl (x := "list") (by decide +kernel)) bn_list (nm _ (by decide +kernel)) (by decide +kernel) rfl (VP_var C.toCxP 4 (by decide +kernel)))) (PW_and1 (PT_not (PT_v rfl (P_isi (t := .list) (C.toCxP.bl (x := "isinstance") (by decide +kernel)) (C.toCxP.bl (x := "list") (by decide +kernel)) bn_list (nm _ (by decide +kernel)) (by decide +kernel) rfl (VP_var C.toCxP 3 (by decide +kernel))))))))))))
 (SS_cons (S_ret E_bl)
 SS_nil)
 SS_nil)
 (SS_cons (S_if (T_pt (PT_ne C.toCxP.hu rfl (P_len (C.toCxP.bl (x := "len") (by decide +kernel)) rfl (VP_var C.toCxP 3 (by decide +kernel))) (P_len (C.toCxP.bl (x := "len") (by decide +kernel)) rfl (VP_var C.toCxP 4 (by decide +kernel)))))
 (SS_cons (S_ret E_bl)
 SS_nil)
 SS_nil)
 (SS_cons (V_ex (V_extend C.toCxP 2 (by decide +kernel) ⟨rfl⟩ rfl rfl (A_cons rfl (V_comp C.toCxP [("k", 5)] (by decide +kernel) rfl (I_rng (C.toCxP.bl (x := "range") (by decide +kernel)) rfl (E_pv (P_len (C.toCxP.bl (x := "len") (by decide +kernel)) rfl (VP_var C.toCxP 4 (by decide +kernel))))) rfl (fun X' C' => (VGc_name C' 5 (by decide +kernel) (by decide +kernel))) (fun X' C' => TS_none) (fun X' C' => (E_tup (A_cons rfl (E_pv (P_idx rfl (VP_var C' 3 (by decide +kernel)) (VP_var C' 5 (by decide +kernel)))) (A_cons rfl (E_pv (P_idx rfl (VP_var C' 4 (by decide +kernel)) (VP_var C' 5 (by decide +kernel)))) A_nil))))) A_nil)) rfl)
 SS_nil))))
 SS_nil))
 SS_nil))
 SS_nil))
 SS_nil)))
 (SS_cons (S_ret E_bl)
 SS_nil)))
/-! _law_order -/
abbrev s_law_order : Stmt := topS 19
def N_law_order : List Str := ["tape", "many", "row", "k", "at", "kept"]
theorem c_law_order : FnScope N_law_order ["tape", "many"] (defScope s_law_order) := ⟨rfl, rfl, rfl, by decide +kernel, rfl, by decide +kernel, by decide +kernel⟩
/-! _law_lines -/
abbrev s_law_lines : Stmt := topS 20
def N_law_lines : List Str := ["steps", "lines", "step", "numbers", "n"]
theorem c_law_lines : FnScope N_law_lines ["steps"] (defScope s_law_lines) := ⟨rfl, rfl, rfl, by decide +kernel, rfl, by decide +kernel, by decide +kernel⟩
def b_law_lines : Ss := .cons (.set 1 (.lst (.nil)))
 (.cons (.fr (.name 2) (.seq (.pv (.var 0))) (.cons (.set 3 (.cat (.pv (.b .idx (.var 2) (.c (.int 2)))) (.ite (.pt (.v (.b .eq (.b .idx (.var 2) (.c (.int 0))) (.c (.str "do"))))) (.pv (.b .idx (.var 2) (.c (.int 3)))) (.tup (.nil)))))
 (.cons (.ex (.mth .append 1 (.cons (.b .join (.c (.str " ")) (.cat (.lst (.cons (.pv (.b .idx (.var 2) (.c (.int 0)))) (.cons (.pv (.b .idx (.var 2) (.c (.int 1)))) (.nil)))) (.comp [4] (.seq (.pv (.var 3))) (.name 4) (.none) (.pv (.u .str (.var 4)))))) (.nil))))
 (.nil))))
 (.cons (.ret (.mv 1))
 (.nil)))
theorem r_law_lines {X : Cx} {Γ : Nat → Ct} (C : CxD X N_law_lines (defScope s_law_lines) BL FT [] Γ) : ESs X Γ [] (defBody s_law_lines) b_law_lines :=
 (SS_cons (V_set C 1 (by decide +kernel) (E_lst A_nil) rfl)
 (SS_cons (V_for C (I_seq (V_var C.toCxP 0 (by decide +kernel))) (VG_name C 2 (by decide +kernel))
 (SS_cons (V_set C 3 (by decide +kernel) (E_cat (E_pv (P_idx rfl (VP_var C.toCxP 2 (by decide +kernel)) P_int)) (E_ite (T_pt (PT_eq C.toCxP.hu rfl (P_idx rfl (VP_var C.toCxP 2 (by decide +kernel)) P_int) P_str)) (E_pv (P_idx rfl (VP_var C.toCxP 2 (by decide +kernel)) P_int)) (E_tup A_nil))) rfl)
 (SS_cons (V_ex (V_append C.toCxP 1 (by decide +kernel) ⟨rfl⟩ rfl rfl (A_cons rfl (E_join rfl (noLc_base (fun _ _ _ h => by cases h)) rfl rfl (E_cat (E_lst (A_cons rfl (E_pv (P_idx rfl (VP_var C.toCxP 2 (by decide +kernel)) P_int)) (A_cons rfl (E_pv (P_idx rfl (VP_var C.toCxP 2 (by decide +kernel)) P_int)) A_nil))) (V_comp C.toCxP [("n", 4)] (by decide +kernel) rfl (I_seq (V_var C.toCxP 3 (by decide +kernel))) rfl (fun X' C' => (VGc_name C' 4 (by decide +kernel) (by decide +kernel))) (fun X' C' => TS_none) (fun X' C' => (E_pv (P_toStr (C'.bl (x := "str") (by decide +kernel)) rfl (VP_var C' 4 (by decide +kernel)))))))) A_nil)) rfl)
 SS_nil)) rfl)
 (SS_cons (S_ret (V_mv C.toCxP 1 (by decide +kernel)))
 SS_nil)))
/-! _law_integer -/
abbrev s_law_integer : Stmt := topS 21
def N_law_integer : List Str := ["word", "digits", "sign"]
theorem c_law_integer : FnScope N_law_integer ["word"] (defScope s_law_integer) := ⟨rfl, rfl, rfl, by decide +kernel, rfl, by decide +kernel, by decide +kernel⟩
def b_law_integer : Ss := .cons (.set 1 (.ite (.v (.b .eq (.slc (.pv (.var 0)) (.none) (.some (.c (.int 1)))) (.c (.str "-")))) (.slc (.pv (.var 0)) (.some (.c (.int 1))) (.none)) (.pv (.var 0))))
 (.cons (.ite (.or (.pt (.v (.b .gt (.u .len (.var 0)) (.c (.int 60))))) (.or (.pt (.v (.b .eq (.u .len (.var 1)) (.c (.int 0))))) (.v (.b .gt (.u .len (.comp [2] (.str (.pv (.var 1))) (.name 2) (.some (.pt (.v (.xp (ninS (.var 2) (.c (.str "0123456789"))))))) (.pv (.var 2)))) (.c (.int 0)))))) (.cons (.ret (.c (.bl false)))
 (.nil)) (.nil))
 (.cons (.ret (.pv (.orV (.b .eq (.var 0) (.c (.str "0"))) (.b .ne (.b .idx (.var 1) (.c (.int 0))) (.c (.str "0"))))))
 (.nil)))
theorem r_law_integer {X : Cx} {Γ : Nat → Ct} (C : CxD X N_law_integer (defScope s_law_integer) BL FT [] Γ) : ESs X Γ [] (defBody s_law_integer) b_law_integer :=
 (SS_cons (V_set C 1 (by decide +kernel) (E_ite (T_eq C.toCxP.hu rfl (E_slc (V_var C.toCxP 0 (by decide +kernel)) O_none (O_some E_int)) E_str) (E_slc (V_var C.toCxP 0 (by decide +kernel)) (O_some E_int) O_none) (V_var C.toCxP 0 (by decide +kernel))) rfl)
 (SS_cons (S_if (T_w (W_or (T_pt (PT_gt rfl (P_len (C.toCxP.bl (x := "len") (by decide +kernel)) rfl (VP_var C.toCxP 0 (by decide +kernel))) P_int)) (W_or (T_pt (PT_eq C.toCxP.hu rfl (P_len (C.toCxP.bl (x := "len") (by decide +kernel)) rfl (VP_var C.toCxP 1 (by decide +kernel))) P_int)) (W_or1 (T_gt rfl (E_len (C.toCxP.bl (x := "len") (by decide +kernel)) rfl (V_comp C.toCxP [("sign", 2)] (by decide +kernel) rfl (I_str (V_var C.toCxP 1 (by decide +kernel))) rfl (fun X' C' => (VGc_name C' 2 (by decide +kernel) (by decide +kernel))) (fun X' C' => TS_one (T_pt (PT_ninS rfl (VP_var C' 2 (by decide +kernel)) P_str))) (fun X' C' => (V_var C' 2 (by decide +kernel))))) E_int)))))
 (SS_cons (S_ret E_bl)
 SS_nil)
 SS_nil)
 (SS_cons (S_ret (E_pv (P_or (P_eq C.toCxP.hu rfl (VP_var C.toCxP 0 (by decide +kernel)) P_str) (P_one (P_ne C.toCxP.hu rfl (P_idx rfl (VP_var C.toCxP 1 (by decide +kernel)) P_int) P_str)))))
 SS_nil)))
/-! _law_read -/
abbrev s_law_read : Stmt := topS 22
def N_law_read : List Str := ["text", "lines", "told", "k", "words", "numbers", "step", "word"]
theorem c_law_read : FnScope N_law_read ["text"] (defScope s_law_read) := ⟨rfl, rfl, rfl, by decide +kernel, rfl, by decide +kernel, by decide +kernel⟩
def b_law_read : Ss := .cons (.set 1 (.xe (splW (.var 0) (.c (.str "\n")))))
 (.cons (.ite (.pt (.v (.b .eq (.b .idx (.var 1) (.u .neg (.c (.int 1)))) (.c (.str ""))))) (.cons (.ex (.mth .pop 1 .nil))
 (.nil)) (.nil))
 (.cons (.set 2 (.lst (.nil)))
 (.cons (.fr (.name 3) (.rng (.pv (.u .len (.var 1)))) (.cons (.ite (.pt (.or (.v (.b .gt (.u .len (.b .idx (.var 1) (.var 3))) (.c (.int 2000)))) (.v (.b .ge (.var 3) (.c (.int 400)))))) (.cons (.ret (.tup (.cons (.c (.str "line")) (.cons (.pv (.b .add (.var 3) (.c (.int 1)))) (.cons (.c (.str "limit")) (.nil))))))
 (.nil)) (.nil))
 (.cons (.set 4 (.comp [7] (.seq (.xe (splW (.b .idx (.var 1) (.var 3)) (.c (.str " "))))) (.name 7) (.some (.pt (.v (.b .ne (.var 7) (.c (.str "")))))) (.pv (.var 7))))
 (.cons (.ite (.pt (.or (.v (.b .eq (.u .len (.var 4)) (.c (.int 0)))) (.v (.b .eq (.b .idx (.b .idx (.var 4) (.c (.int 0))) (.c (.int 0))) (.c (.str "#")))))) (.cons (.cnt)
 (.nil)) (.nil))
 (.cons (.ite (.or (.v (.b .notin (.pv (.b .idx (.var 4) (.c (.int 0)))) (.tup (.cons (.c (.str "do")) (.cons (.c (.str "ask")) (.nil)))))) (.or (.pt (.v (.b .lt (.u .len (.var 4)) (.c (.int 4))))) (.pt (.and (.v (.b .eq (.b .idx (.var 4) (.c (.int 0))) (.c (.str "ask")))) (.v (.b .gt (.u .len (.var 4)) (.c (.int 4)))))))) (.cons (.ret (.tup (.cons (.c (.str "line")) (.cons (.pv (.b .add (.var 3) (.c (.int 1)))) (.cons (.c (.str "words")) (.nil))))))
 (.nil)) (.nil))
 (.cons (.ite (.v (.b .gt (.u .len (.comp [7] (.seq (.slc (.sh 4) (.some (.c (.int 2))) (.none))) (.name 7) (.some (.not (.v (.call 11 (.cons (.pv (.var 7)) (.nil)) none)))) (.pv (.var 7)))) (.c (.int 0)))) (.cons (.ret (.tup (.cons (.c (.str "line")) (.cons (.pv (.b .add (.var 3) (.c (.int 1)))) (.cons (.c (.str "integer")) (.nil))))))
 (.nil)) (.nil))
 (.cons (.set 5 (.comp [7] (.seq (.slc (.sh 4) (.some (.c (.int 2))) (.none))) (.name 7) (.none) (.pv (.u .int (.var 7)))))
 (.cons (.set 6 (.tup (.cons (.pv (.b .idx (.var 4) (.c (.int 0)))) (.cons (.pv (.b .idx (.var 4) (.c (.int 1)))) (.cons (.tup (.cons (.pv (.b .idx (.var 5) (.c (.int 0)))) (.cons (.pv (.b .idx (.var 5) (.c (.int 1)))) (.nil)))) (.nil))))))
 (.cons (.ex (.mth .append 2 (.cons (.ite (.pt (.v (.b .eq (.b .idx (.var 4) (.c (.int 0))) (.c (.str "do"))))) (.cat (.pv (.var 6)) (.tup (.cons (.a1 .tupleOf (.slc (.sh 5) (.some (.c (.int 2))) (.none))) (.nil)))) (.pv (.var 6))) (.nil))))
 (.nil))))))))))
 (.cons (.ret (.tup (.cons (.c (.str "told")) (.cons (.av .tupleOf (.var 2)) (.nil)))))
 (.nil)))))
theorem r_law_read {X : Cx} {Γ : Nat → Ct} (C : CxD X N_law_read (defScope s_law_read) BL FT [11] Γ) : ESs X Γ [] (defBody s_law_read) b_law_read :=
 (SS_cons (V_set C 1 (by decide +kernel) (E_split rfl (noLc_base (fun _ _ _ h => by cases h)) rfl (VP_var C.toCxP 0 (by decide +kernel)) P_str) rfl)
 (SS_cons (S_if (T_pt (PT_eq C.toCxP.hu rfl (P_idx rfl (VP_var C.toCxP 1 (by decide +kernel)) (P_neg P_int)) P_str))
 (SS_cons (V_ex (V_pop C.toCxP 1 (by decide +kernel) rfl) rfl)
 SS_nil)
 SS_nil)
 (SS_cons (V_set C 2 (by decide +kernel) (E_lst A_nil) rfl)
 (SS_cons (V_for C (I_rng (C.toCxP.bl (x := "range") (by decide +kernel)) rfl (E_pv (P_len (C.toCxP.bl (x := "len") (by decide +kernel)) rfl (VP_var C.toCxP 1 (by decide +kernel))))) (VG_name C 3 (by decide +kernel))
 (SS_cons (S_if (T_pt (PT_w (PW_or (PT_gt rfl (P_len (C.toCxP.bl (x := "len") (by decide +kernel)) rfl (P_idx rfl (VP_var C.toCxP 1 (by decide +kernel)) (VP_var C.toCxP 3 (by decide +kernel)))) P_int) (PW_or1 (PT_ge rfl (VP_var C.toCxP 3 (by decide +kernel)) P_int)))))
 (SS_cons (S_ret (E_tup (A_cons rfl E_str (A_cons rfl (E_pv (P_add (VP_var C.toCxP 3 (by decide +kernel)) P_int)) (A_cons rfl E_str A_nil)))))
 SS_nil)
 SS_nil)
 (SS_cons (V_setComp C.toCxP 4 [("word", 7)] (by decide +kernel) (by decide +kernel) (by decide +kernel) rfl rfl (by decide +kernel) (I_seq (E_split rfl (noLc_base (fun _ _ _ h => by cases h)) rfl (P_idx rfl (VP_var C.toCxP 1 (by decide +kernel)) (VP_var C.toCxP 3 (by decide +kernel))) P_str)) rfl (fun X' C' => (VGc_name C' 7 (by decide +kernel) (by decide +kernel))) (fun X' C' => TS_one (T_pt (PT_ne C'.hu rfl (VP_var C' 7 (by decide +kernel)) P_str))) (fun X' C' => (V_var C' 7 (by decide +kernel))))
 (SS_cons (S_if (T_pt (PT_w (PW_or (PT_eq C.toCxP.hu rfl (P_len (C.toCxP.bl (x := "len") (by decide +kernel)) rfl (VP_var C.toCxP 4 (by decide +kernel))) P_int) (PW_or1 (PT_eq C.toCxP.hu rfl (P_idx rfl (P_idx rfl (VP_var C.toCxP 4 (by decide +kernel)) P_int) P_int) P_str)))))
 (SS_cons S_cnt
 SS_nil)
 SS_nil)
 (SS_cons (S_if (T_w (W_or (T_notin rfl (E_pv (P_idx rfl (VP_var C.toCxP 4 (by decide +kernel)) P_int)) (E_tup (A_cons rfl E_str (A_cons rfl E_str A_nil)))) (W_or (T_pt (PT_lt rfl (P_len (C.toCxP.bl (x := "len") (by decide +kernel)) rfl (VP_var C.toCxP 4 (by decide +kernel))) P_int)) (W_or1 (T_pt (PT_w (PW_and (PT_eq C.toCxP.hu rfl (P_idx rfl (VP_var C.toCxP 4 (by decide +kernel)) P_int) P_str) (PW_and1 (PT_gt rfl (P_len (C.toCxP.bl (x := "len") (by decide +kernel)) rfl (VP_var C.toCxP 4 (by decide +kernel))) P_int)))))))))
 (SS_cons (S_ret (E_tup (A_cons rfl E_str (A_cons rfl (E_pv (P_add (VP_var C.toCxP 3 (by decide +kernel)) P_int)) (A_cons rfl E_str A_nil)))))
 SS_nil)
 SS_nil)
 (SS_cons (S_if (T_gt rfl (E_len (C.toCxP.bl (x := "len") (by decide +kernel)) rfl (V_comp C.toCxP [("word", 7)] (by decide +kernel) rfl (I_seq (E_slc (V_sh C.toCxP 4 (by decide +kernel)) (O_some E_int) O_none)) rfl (fun X' C' => (VGc_name C' 7 (by decide +kernel) (by decide +kernel))) (fun X' C' => TS_one (T_not (T_v rfl (V_call C' 11 none _ rfl (by decide) rfl (by decide +kernel) rfl (fun _ _ h => nomatch h) (A_cons rfl (V_var C' 7 (by decide +kernel)) A_nil))))) (fun X' C' => (V_var C' 7 (by decide +kernel))))) E_int)
 (SS_cons (S_ret (E_tup (A_cons rfl E_str (A_cons rfl (E_pv (P_add (VP_var C.toCxP 3 (by decide +kernel)) P_int)) (A_cons rfl E_str A_nil)))))
 SS_nil)
 SS_nil)
 (SS_cons (V_setComp C.toCxP 5 [("word", 7)] (by decide +kernel) (by decide +kernel) (by decide +kernel) rfl rfl (by decide +kernel) (I_seq (E_slc (V_sh C.toCxP 4 (by decide +kernel)) (O_some E_int) O_none)) rfl (fun X' C' => (VGc_name C' 7 (by decide +kernel) (by decide +kernel))) (fun X' C' => TS_none) (fun X' C' => (E_pv (P_toInt (C'.bl (x := "int") (by decide +kernel)) rfl (VP_var C' 7 (by decide +kernel))))))
 (SS_cons (V_set C 6 (by decide +kernel) (E_tup (A_cons rfl (E_pv (P_idx rfl (VP_var C.toCxP 4 (by decide +kernel)) P_int)) (A_cons rfl (E_pv (P_idx rfl (VP_var C.toCxP 4 (by decide +kernel)) P_int)) (A_cons rfl (E_tup (A_cons rfl (E_pv (P_idx rfl (VP_var C.toCxP 5 (by decide +kernel)) P_int)) (A_cons rfl (E_pv (P_idx rfl (VP_var C.toCxP 5 (by decide +kernel)) P_int)) A_nil))) A_nil)))) rfl)
 (SS_cons (V_ex (V_append C.toCxP 2 (by decide +kernel) ⟨rfl⟩ rfl rfl (A_cons rfl (E_ite (T_pt (PT_eq C.toCxP.hu rfl (P_idx rfl (VP_var C.toCxP 4 (by decide +kernel)) P_int) P_str)) (E_cat (V_var C.toCxP 6 (by decide +kernel)) (E_tup (A_cons rfl (E_tupleOf (C.toCxP.bl (x := "tuple") (by decide +kernel)) rfl (E_slc (V_sh C.toCxP 5 (by decide +kernel)) (O_some E_int) O_none)) A_nil))) (V_var C.toCxP 6 (by decide +kernel))) A_nil)) rfl)
 SS_nil)))))))) rfl)
 (SS_cons (S_ret (E_tup (A_cons rfl E_str (A_cons rfl (E_tupleOfV (C.toCxP.bl (x := "tuple") (by decide +kernel)) rfl (VP_var C.toCxP 2 (by decide +kernel))) A_nil))))
 SS_nil)))))
/-! _law_called -/
abbrev s_law_called : Stmt := topS 23
def N_law_called : List Str := ["text", "error"]
theorem c_law_called : FnScope N_law_called ["text"] (defScope s_law_called) := ⟨rfl, rfl, rfl, by decide +kernel, rfl, by decide +kernel, by decide +kernel⟩
/-! _law_number -/
abbrev s_law_number : Stmt := topS 24
def N_law_number : List Str := ["tape", "way"]
theorem c_law_number : FnScope N_law_number ["tape"] (defScope s_law_number) := ⟨rfl, rfl, rfl, by decide +kernel, rfl, by decide +kernel, by decide +kernel⟩
def b_law_number : Ss := .cons (.set 1 (.call 7 (.cons (.mv 0) (.cons (.c (.int 5)) (.nil))) (some (0, 0))))
 (.cons (.ite (.pt (.v (.b .eq (.var 1) (.c (.int 0))))) (.cons (.ret (.call 7 (.cons (.mv 0) (.cons (.c (.int 10)) (.nil))) (some (0, 0))))
 (.nil)) (.nil))
 (.cons (.ite (.pt (.v (.b .eq (.var 1) (.c (.int 1))))) (.cons (.ret (.b .sub (.c (.int 0)) (.call 7 (.cons (.mv 0) (.cons (.pv (.b .add (.b .pow (.c (.int 10)) (.c (.int 9))) (.c (.int 1)))) (.nil))) (some (0, 0)))))
 (.nil)) (.nil))
 (.cons (.ret (.b .idx (.tup (.cons (.c (.int 0)) (.cons (.pv (.b .pow (.c (.int 10)) (.c (.int 9)))) (.cons (.b .add (.c (.int 1)) (.call 7 (.cons (.mv 0) (.cons (.pv (.b .pow (.c (.int 10)) (.c (.int 9)))) (.nil))) (some (0, 0)))) (.nil))))) (.call 7 (.cons (.mv 0) (.cons (.c (.int 3)) (.nil))) (some (0, 0)))))
 (.nil))))
theorem r_law_number {X : Cx} {Γ : Nat → Ct} (C : CxD X N_law_number (defScope s_law_number) BL FT [7] Γ) : ESs X Γ [0] (defBody s_law_number) b_law_number :=
 (SS_cons (V_set C 1 (by decide +kernel) (V_call C.toCxP 7 (some (0, 0)) _ rfl (by decide) rfl (by decide +kernel) rfl (fun _ _ h => by cases h; exact ⟨rfl, by decide⟩) (VA_mv C.toCxP 0 (by decide +kernel) (A_cons rfl E_int A_nil))) rfl)
 (SS_cons (S_if (T_pt (PT_eq C.toCxP.hu rfl (VP_var C.toCxP 1 (by decide +kernel)) P_int))
 (SS_cons (S_ret (V_call C.toCxP 7 (some (0, 0)) _ rfl (by decide) rfl (by decide +kernel) rfl (fun _ _ h => by cases h; exact ⟨rfl, by decide⟩) (VA_mv C.toCxP 0 (by decide +kernel) (A_cons rfl E_int A_nil))))
 SS_nil)
 SS_nil)
 (SS_cons (S_if (T_pt (PT_eq C.toCxP.hu rfl (VP_var C.toCxP 1 (by decide +kernel)) P_int))
 (SS_cons (S_ret (E_sub E_int (V_call C.toCxP 7 (some (0, 0)) _ rfl (by decide) rfl (by decide +kernel) rfl (fun _ _ h => by cases h; exact ⟨rfl, by decide⟩) (VA_mv C.toCxP 0 (by decide +kernel) (A_cons rfl (E_pv (P_add (P_pow P_int P_int) P_int)) A_nil)))))
 SS_nil)
 SS_nil)
 (SS_cons (S_ret (E_idx rfl (E_tup (A_cons rfl E_int (A_cons rfl (E_pv (P_pow P_int P_int)) (A_cons rfl (E_add E_int (V_call C.toCxP 7 (some (0, 0)) _ rfl (by decide) rfl (by decide +kernel) rfl (fun _ _ h => by cases h; exact ⟨rfl, by decide⟩) (VA_mv C.toCxP 0 (by decide +kernel) (A_cons rfl (E_pv (P_pow P_int P_int)) A_nil)))) A_nil)))) (V_call C.toCxP 7 (some (0, 0)) _ rfl (by decide) rfl (by decide +kernel) rfl (fun _ _ h => by cases h; exact ⟨rfl, by decide⟩) (VA_mv C.toCxP 0 (by decide +kernel) (A_cons rfl E_int A_nil)))))
 SS_nil))))
/-! _law_drawn -/
abbrev s_law_drawn : Stmt := topS 25
def N_law_drawn : List Str := ["tape", "names", "told", "lap", "low", "span", "k"]
theorem c_law_drawn : FnScope N_law_drawn ["tape"] (defScope s_law_drawn) := ⟨rfl, rfl, rfl, by decide +kernel, rfl, by decide +kernel, by decide +kernel⟩
def b_law_drawn : Ss := .cons (.set 1 (.tup (.cons (.c (.str "add")) (.cons (.c (.str "scale")) (.cons (.c (.str "x")) (.cons (.c (.str "q")) (.cons (.c (.str "twist")) (.cons (.c (.str "longword")) (.nil)))))))))
 (.cons (.set 2 (.lst (.nil)))
 (.cons (.fr (.name 3) (.rng (.call 7 (.cons (.mv 0) (.cons (.c (.int 13)) (.nil))) (some (0, 0)))) (.cons (.set 4 (.call 7 (.cons (.mv 0) (.cons (.c (.int 60)) (.nil))) (some (0, 0))))
 (.cons (.set 5 (.tup (.cons (.pv (.var 4)) (.cons (.b .add (.pv (.var 4)) (.call 7 (.cons (.mv 0) (.cons (.c (.int 5)) (.nil))) (some (0, 0)))) (.nil)))))
 (.cons (.ite (.v (.b .eq (.call 7 (.cons (.mv 0) (.cons (.c (.int 2)) (.nil))) (some (0, 0))) (.c (.int 0)))) (.cons (.ex (.mth .append 2 (.cons (.tup (.cons (.c (.str "ask")) (.cons (.ixL 1 (.call 7 (.cons (.mv 0) (.cons (.c (.int 6)) (.nil))) (some (0, 0)))) (.cons (.pv (.var 5)) (.nil))))) (.nil))))
 (.nil)) (.cons (.ex (.mth .append 2 (.cons (.tup (.cons (.c (.str "do")) (.cons (.ixL 1 (.call 7 (.cons (.mv 0) (.cons (.c (.int 6)) (.nil))) (some (0, 0)))) (.cons (.pv (.var 5)) (.cons (.a1 .tupleOf (.comp [6] (.rng (.call 7 (.cons (.mv 0) (.cons (.c (.int 4)) (.nil))) (some (0, 0)))) (.name 6) (.none) (.call 14 (.cons (.mv 0) (.nil)) (some (0, 0))))) (.nil)))))) (.nil))))
 (.nil)))
 (.nil)))))
 (.cons (.ret (.av .tupleX (.var 2)))
 (.nil))))
theorem r_law_drawn {X : Cx} {Γ : Nat → Ct} (C : CxD X N_law_drawn (defScope s_law_drawn) BL FT [7, 14] Γ) : ESs X Γ [0] (defBody s_law_drawn) b_law_drawn :=
 (SS_cons (V_set C 1 (by decide +kernel) (E_tup (A_cons rfl E_str (A_cons rfl E_str (A_cons rfl E_str (A_cons rfl E_str (A_cons rfl E_str (A_cons rfl E_str A_nil))))))) rfl)
 (SS_cons (V_set C 2 (by decide +kernel) (E_lst A_nil) rfl)
 (SS_cons (V_for C (I_rng (C.toCxP.bl (x := "range") (by decide +kernel)) rfl (V_call C.toCxP 7 (some (0, 0)) _ rfl (by decide) rfl (by decide +kernel) rfl (fun _ _ h => by cases h; exact ⟨rfl, by decide⟩) (VA_mv C.toCxP 0 (by decide +kernel) (A_cons rfl E_int A_nil)))) (VG_name C 3 (by decide +kernel))
 (SS_cons (V_set C 4 (by decide +kernel) (V_call C.toCxP 7 (some (0, 0)) _ rfl (by decide) rfl (by decide +kernel) rfl (fun _ _ h => by cases h; exact ⟨rfl, by decide⟩) (VA_mv C.toCxP 0 (by decide +kernel) (A_cons rfl E_int A_nil))) rfl)
 (SS_cons (V_set C 5 (by decide +kernel) (E_tup (A_cons rfl (V_var C.toCxP 4 (by decide +kernel)) (A_cons rfl (E_add (V_var C.toCxP 4 (by decide +kernel)) (V_call C.toCxP 7 (some (0, 0)) _ rfl (by decide) rfl (by decide +kernel) rfl (fun _ _ h => by cases h; exact ⟨rfl, by decide⟩) (VA_mv C.toCxP 0 (by decide +kernel) (A_cons rfl E_int A_nil)))) A_nil))) rfl)
 (SS_cons (S_if (T_eq C.toCxP.hu rfl (V_call C.toCxP 7 (some (0, 0)) _ rfl (by decide) rfl (by decide +kernel) rfl (fun _ _ h => by cases h; exact ⟨rfl, by decide⟩) (VA_mv C.toCxP 0 (by decide +kernel) (A_cons rfl E_int A_nil))) E_int)
 (SS_cons (V_ex (V_append C.toCxP 2 (by decide +kernel) ⟨rfl⟩ rfl rfl (A_cons rfl (E_tup (A_cons rfl E_str (A_cons rfl (V_ixL C.toCxP 1 (by decide +kernel) rfl (V_call C.toCxP 7 (some (0, 0)) _ rfl (by decide) rfl (by decide +kernel) rfl (fun _ _ h => by cases h; exact ⟨rfl, by decide⟩) (VA_mv C.toCxP 0 (by decide +kernel) (A_cons rfl E_int A_nil)))) (A_cons rfl (V_var C.toCxP 5 (by decide +kernel)) A_nil)))) A_nil)) rfl)
 SS_nil)
 (SS_cons (V_ex (V_append C.toCxP 2 (by decide +kernel) ⟨rfl⟩ rfl rfl (A_cons rfl (E_tup (A_cons rfl E_str (A_cons rfl (V_ixL C.toCxP 1 (by decide +kernel) rfl (V_call C.toCxP 7 (some (0, 0)) _ rfl (by decide) rfl (by decide +kernel) rfl (fun _ _ h => by cases h; exact ⟨rfl, by decide⟩) (VA_mv C.toCxP 0 (by decide +kernel) (A_cons rfl E_int A_nil)))) (A_cons rfl (V_var C.toCxP 5 (by decide +kernel)) (A_cons rfl (E_tupleOf (C.toCxP.bl (x := "tuple") (by decide +kernel)) rfl (V_comp C.toCxP [("k", 6)] (by decide +kernel) rfl (I_rng (C.toCxP.bl (x := "range") (by decide +kernel)) rfl (V_call C.toCxP 7 (some (0, 0)) _ rfl (by decide) rfl (by decide +kernel) rfl (fun _ _ h => by cases h; exact ⟨rfl, by decide⟩) (VA_mv C.toCxP 0 (by decide +kernel) (A_cons rfl E_int A_nil)))) rfl (fun X' C' => (VGc_name C' 6 (by decide +kernel) (by decide +kernel))) (fun X' C' => TS_none) (fun X' C' => (V_call C' 14 (some (0, 0)) _ rfl (by decide) rfl (by decide +kernel) rfl (fun _ _ h => by cases h; exact ⟨rfl, by decide⟩) (VA_mv C' 0 (by decide +kernel) A_nil))))) A_nil))))) A_nil)) rfl)
 SS_nil))
 SS_nil))) rfl)
 (SS_cons (S_ret (E_tupleXV (C.toCxP.bl (x := "tuple") (by decide +kernel)) rfl (VP_var C.toCxP 2 (by decide +kernel))))
 SS_nil))))
/-! _law_loose -/
abbrev s_law_loose : Stmt := topS 26
def N_law_loose : List Str := ["tape", "lines", "text", "line"]
theorem c_law_loose : FnScope N_law_loose ["tape", "lines"] (defScope s_law_loose) := ⟨rfl, rfl, rfl, by decide +kernel, rfl, by decide +kernel, by decide +kernel⟩
def b_law_loose (Γ : Nat → Ct) : Ss := .cons (.set 2 (.c (.str "")))
 (.cons (.fr (.name 3) (.seq (.pv (.var 1))) (.cons (.ite (.v (.b .eq (.call 7 (.cons (.mv 0) (.cons (.c (.int 5)) (.nil))) (some (0, 0))) (.c (.int 0)))) (.cons (.set 2 (.b .add (.b .add (.pv (.var 2)) (.b .idx (.tup (.cons (.c (.str "# do")) (.cons (.c (.str "")) (.cons (.c (.str "   ")) (.cons (.c (.str "#")) (.nil)))))) (.call 7 (.cons (.mv 0) (.cons (.c (.int 4)) (.nil))) (some (0, 0))))) (.c (.str "\n"))))
 (.nil)) (.nil))
 (.cons (.set 2 (.b .add (.b .add (.xe (rplDW (wpE Γ (.pv (.var 2))) " " (wpE Γ (.call 7 (.cons (.mv 0) (.cons (.c (.int 2)) (.nil))) (some (0, 0)))) (.var 3) " " " " (wpE Γ (.b .add (.c (.int 1)) (.call 7 (.cons (.mv 0) (.cons (.c (.int 3)) (.nil))) (some (0, 0))))))) (.rep (.c (.str " ")) (.call 7 (.cons (.mv 0) (.cons (.c (.int 2)) (.nil))) (some (0, 0))))) (.c (.str "\n"))))
 (.nil))))
 (.cons (.ret (.b .add (.pv (.var 2)) (.b .idx (.tup (.cons (.c (.str "")) (.cons (.c (.str "#")) (.cons (.c (.str "\n")) (.nil))))) (.call 7 (.cons (.mv 0) (.cons (.c (.int 3)) (.nil))) (some (0, 0))))))
 (.nil)))
theorem r_law_loose {X : Cx} {Γ : Nat → Ct} (C : CxD X N_law_loose (defScope s_law_loose) BL FT [7] Γ) (gNB : NBk X.K) : ESs X Γ [0] (defBody s_law_loose) (b_law_loose Γ) :=
 (SS_cons (V_set C 2 (by decide +kernel) E_str rfl)
 (SS_cons (V_for C (I_seq (V_var C.toCxP 1 (by decide +kernel))) (VG_name C 3 (by decide +kernel))
 (SS_cons (S_if (T_eq C.toCxP.hu rfl (V_call C.toCxP 7 (some (0, 0)) _ rfl (by decide) rfl (by decide +kernel) rfl (fun _ _ h => by cases h; exact ⟨rfl, by decide⟩) (VA_mv C.toCxP 0 (by decide +kernel) (A_cons rfl E_int A_nil))) E_int)
 (SS_cons (V_set C 2 (by decide +kernel) (E_add (E_add (V_var C.toCxP 2 (by decide +kernel)) (E_idx rfl (E_tup (A_cons rfl E_str (A_cons rfl E_str (A_cons rfl E_str (A_cons rfl E_str A_nil))))) (V_call C.toCxP 7 (some (0, 0)) _ rfl (by decide) rfl (by decide +kernel) rfl (fun _ _ h => by cases h; exact ⟨rfl, by decide⟩) (VA_mv C.toCxP 0 (by decide +kernel) (A_cons rfl E_int A_nil))))) E_str) rfl)
 SS_nil)
 SS_nil)
 (SS_cons (V_set C 2 (by decide +kernel) (E_add (E_add (E_rplD gNB rfl (noLc_base (fun _ _ _ h => by cases h)) rfl (V_var C.toCxP 2 (by decide +kernel)) (V_call C.toCxP 7 (some (0, 0)) _ rfl (by decide) rfl (by decide +kernel) rfl (fun _ _ h => by cases h; exact ⟨rfl, by decide⟩) (VA_mv C.toCxP 0 (by decide +kernel) (A_cons rfl E_int A_nil))) (VP_var C.toCxP 3 (by decide +kernel)) (E_add E_int (V_call C.toCxP 7 (some (0, 0)) _ rfl (by decide) rfl (by decide +kernel) rfl (fun _ _ h => by cases h; exact ⟨rfl, by decide⟩) (VA_mv C.toCxP 0 (by decide +kernel) (A_cons rfl E_int A_nil))))) (E_rep E_str (V_call C.toCxP 7 (some (0, 0)) _ rfl (by decide) rfl (by decide +kernel) rfl (fun _ _ h => by cases h; exact ⟨rfl, by decide⟩) (VA_mv C.toCxP 0 (by decide +kernel) (A_cons rfl E_int A_nil))))) E_str) rfl)
 SS_nil)) rfl)
 (SS_cons (S_ret (E_add (V_var C.toCxP 2 (by decide +kernel)) (E_idx rfl (E_tup (A_cons rfl E_str (A_cons rfl E_str (A_cons rfl E_str A_nil)))) (V_call C.toCxP 7 (some (0, 0)) _ rfl (by decide) rfl (by decide +kernel) rfl (fun _ _ h => by cases h; exact ⟨rfl, by decide⟩) (VA_mv C.toCxP 0 (by decide +kernel) (A_cons rfl E_int A_nil))))))
 SS_nil)))
/-! _law_spoilt -/
abbrev s_law_spoilt : Stmt := topS 27
def N_law_spoilt : List Str := ["tape", "lines", "rows", "at", "words", "k", "other", "way"]
theorem c_law_spoilt : FnScope N_law_spoilt ["tape", "lines"] (defScope s_law_spoilt) := ⟨rfl, rfl, rfl, by decide +kernel, rfl, by decide +kernel, by decide +kernel⟩
def b_law_spoilt : Ss := .cons (.set 2 (.cat (.av .listOf (.var 1)) (.rep (.lst (.cons (.c (.str "do add 0 1")) (.nil))) (.pv (.u .int (.b .eq (.u .len (.var 1)) (.c (.int 0))))))))
 (.cons (.set 3 (.call 7 (.cons (.mv 0) (.cons (.pv (.u .len (.var 2))) (.nil))) (some (0, 0))))
 (.cons (.set 4 (.xe (splW (.b .idx (.var 2) (.var 3)) (.c (.str " ")))))
 (.cons (.set 5 (.call 7 (.cons (.mv 0) (.cons (.pv (.u .len (.var 4))) (.nil))) (some (0, 0))))
 (.cons (.set 6 (.tup (.cons (.c (.str "03")) (.cons (.c (.str "-0")) (.cons (.c (.str "+1")) (.cons (.c (.str "x")) (.cons (.c (.str "-")) (.cons (.c (.str "1.0")) (.cons (.c (.str "--1")) (.cons (.pv (.xp (mulS (.c (.str "1")) (.c (.int 60))))) (.cons (.pv (.xp (mulS (.c (.str "1")) (.c (.int 61))))) (.cons (.pv (.b .add (.c (.str "-")) (.xp (mulS (.c (.str "1")) (.c (.int 59)))))) (.cons (.pv (.b .add (.c (.str "-")) (.xp (mulS (.c (.str "1")) (.c (.int 60)))))) (.cons (.c (.str "do")) (.cons (.c (.str "ask")) (.cons (.c (.str "0")) (.cons (.c (.str "-7")) (.cons (.c (.str "did")) (.cons (.c (.str "# 1")) (.nil))))))))))))))))))))
 (.cons (.set 7 (.call 7 (.cons (.mv 0) (.cons (.c (.int 6)) (.nil))) (some (0, 0))))
 (.cons (.ite (.pt (.v (.b .eq (.var 7) (.c (.int 0))))) (.cons (.ex (.mth .popAt 2 (.cons (.pv (.var 3)) (.nil))))
 (.nil)) (.cons (.ite (.pt (.v (.b .eq (.var 7) (.c (.int 1))))) (.cons (.ex (.mth .insert 2 (.cons (.pv (.var 3)) (.cons (.pv (.b .idx (.var 2) (.var 3))) (.nil)))))
 (.nil)) (.cons (.ite (.pt (.v (.b .eq (.var 7) (.c (.int 2))))) (.cons (.setIx 2 [] (.var 3) (.b .join (.c (.str " ")) (.cat (.slc (.sh 4) (.none) (.some (.pv (.var 5)))) (.slc (.sh 4) (.some (.pv (.b .add (.var 5) (.c (.int 1))))) (.none)))))
 (.nil)) (.cons (.ite (.pt (.v (.b .lt (.var 7) (.c (.int 5))))) (.cons (.setIx 2 [] (.var 3) (.b .join (.c (.str " ")) (.cat (.cat (.slc (.sh 4) (.none) (.some (.pv (.var 5)))) (.lst (.cons (.ixL 6 (.call 7 (.cons (.mv 0) (.cons (.pv (.u .len (.var 6))) (.nil))) (some (0, 0)))) (.nil)))) (.slc (.sh 4) (.some (.pv (.b .add (.var 5) (.c (.int 1))))) (.none)))))
 (.nil)) (.cons (.setIx 2 [] (.var 3) (.b .join (.c (.str " ")) (.cat (.mv 4) (.lst (.cons (.ixL 6 (.call 7 (.cons (.mv 0) (.cons (.pv (.u .len (.var 6))) (.nil))) (some (0, 0)))) (.nil))))))
 (.nil)))
 (.nil)))
 (.nil)))
 (.nil)))
 (.cons (.ret (.b .add (.pv (.b .join (.c (.str "\n")) (.var 2))) (.rep (.c (.str "\n")) (.call 7 (.cons (.mv 0) (.cons (.c (.int 2)) (.nil))) (some (0, 0))))))
 (.nil))))))))
theorem r_law_spoilt {X : Cx} {Γ : Nat → Ct} (C : CxD X N_law_spoilt (defScope s_law_spoilt) BL FT [7] Γ) : ESs X Γ [0] (defBody s_law_spoilt) b_law_spoilt :=
 (SS_cons (V_set C 2 (by decide +kernel) (E_cat (E_listOfV (C.toCxP.bl (x := "list") (by decide +kernel)) rfl (VP_var C.toCxP 1 (by decide +kernel))) (E_rep (E_lst (A_cons rfl E_str A_nil)) (E_pv (P_toInt (C.toCxP.bl (x := "int") (by decide +kernel)) rfl (P_eq C.toCxP.hu rfl (P_len (C.toCxP.bl (x := "len") (by decide +kernel)) rfl (VP_var C.toCxP 1 (by decide +kernel))) P_int))))) rfl)
 (SS_cons (V_set C 3 (by decide +kernel) (V_call C.toCxP 7 (some (0, 0)) _ rfl (by decide) rfl (by decide +kernel) rfl (fun _ _ h => by cases h; exact ⟨rfl, by decide⟩) (VA_mv C.toCxP 0 (by decide +kernel) (A_cons rfl (E_pv (P_len (C.toCxP.bl (x := "len") (by decide +kernel)) rfl (VP_var C.toCxP 2 (by decide +kernel)))) A_nil))) rfl)
 (SS_cons (V_set C 4 (by decide +kernel) (E_split rfl (noLc_base (fun _ _ _ h => by cases h)) rfl (P_idx rfl (VP_var C.toCxP 2 (by decide +kernel)) (VP_var C.toCxP 3 (by decide +kernel))) P_str) rfl)
 (SS_cons (V_set C 5 (by decide +kernel) (V_call C.toCxP 7 (some (0, 0)) _ rfl (by decide) rfl (by decide +kernel) rfl (fun _ _ h => by cases h; exact ⟨rfl, by decide⟩) (VA_mv C.toCxP 0 (by decide +kernel) (A_cons rfl (E_pv (P_len (C.toCxP.bl (x := "len") (by decide +kernel)) rfl (VP_var C.toCxP 4 (by decide +kernel)))) A_nil))) rfl)
 (SS_cons (V_set C 6 (by decide +kernel) (E_tup (A_cons rfl E_str (A_cons rfl E_str (A_cons rfl E_str (A_cons rfl E_str (A_cons rfl E_str (A_cons rfl E_str (A_cons rfl E_str (A_cons rfl (E_pv (P_mulS P_str P_int)) (A_cons rfl (E_pv (P_mulS P_str P_int)) (A_cons rfl (E_pv (P_add P_str (P_mulS P_str P_int))) (A_cons rfl (E_pv (P_add P_str (P_mulS P_str P_int))) (A_cons rfl E_str (A_cons rfl E_str (A_cons rfl E_str (A_cons rfl E_str (A_cons rfl E_str (A_cons rfl E_str A_nil)))))))))))))))))) rfl)
 (SS_cons (V_set C 7 (by decide +kernel) (V_call C.toCxP 7 (some (0, 0)) _ rfl (by decide) rfl (by decide +kernel) rfl (fun _ _ h => by cases h; exact ⟨rfl, by decide⟩) (VA_mv C.toCxP 0 (by decide +kernel) (A_cons rfl E_int A_nil))) rfl)
 (SS_cons (S_if (T_pt (PT_eq C.toCxP.hu rfl (VP_var C.toCxP 7 (by decide +kernel)) P_int))
 (SS_cons (V_ex (V_popAt C.toCxP 2 (by decide +kernel) ⟨rfl⟩ rfl rfl (A_cons rfl (V_var C.toCxP 3 (by decide +kernel)) A_nil)) rfl)
 SS_nil)
 (SS_cons (S_if (T_pt (PT_eq C.toCxP.hu rfl (VP_var C.toCxP 7 (by decide +kernel)) P_int))
 (SS_cons (V_ex (V_insert C.toCxP 2 (by decide +kernel) ⟨rfl⟩ rfl rfl (A_cons rfl (V_var C.toCxP 3 (by decide +kernel)) (A_cons rfl (E_pv (P_idx rfl (VP_var C.toCxP 2 (by decide +kernel)) (VP_var C.toCxP 3 (by decide +kernel)))) A_nil))) rfl)
 SS_nil)
 (SS_cons (S_if (T_pt (PT_eq C.toCxP.hu rfl (VP_var C.toCxP 7 (by decide +kernel)) P_int))
 (SS_cons (V_setIx C.toCxP 2 (VQ_0 C.toCxP 2 (by decide +kernel)) (VP_var C.toCxP 3 (by decide +kernel)) (E_join rfl (noLc_base (fun _ _ _ h => by cases h)) rfl rfl (E_cat (E_slc (V_sh C.toCxP 4 (by decide +kernel)) O_none (O_some (V_var C.toCxP 5 (by decide +kernel)))) (E_slc (V_sh C.toCxP 4 (by decide +kernel)) (O_some (E_pv (P_add (VP_var C.toCxP 5 (by decide +kernel)) P_int))) O_none))) rfl rfl rfl (fun _ => rfl))
 SS_nil)
 (SS_cons (S_if (T_pt (PT_lt rfl (VP_var C.toCxP 7 (by decide +kernel)) P_int))
 (SS_cons (V_setIx C.toCxP 2 (VQ_0 C.toCxP 2 (by decide +kernel)) (VP_var C.toCxP 3 (by decide +kernel)) (E_join rfl (noLc_base (fun _ _ _ h => by cases h)) rfl rfl (E_cat (E_cat (E_slc (V_sh C.toCxP 4 (by decide +kernel)) O_none (O_some (V_var C.toCxP 5 (by decide +kernel)))) (E_lst (A_cons rfl (V_ixL C.toCxP 6 (by decide +kernel) rfl (V_call C.toCxP 7 (some (0, 0)) _ rfl (by decide) rfl (by decide +kernel) rfl (fun _ _ h => by cases h; exact ⟨rfl, by decide⟩) (VA_mv C.toCxP 0 (by decide +kernel) (A_cons rfl (E_pv (P_len (C.toCxP.bl (x := "len") (by decide +kernel)) rfl (VP_var C.toCxP 6 (by decide +kernel)))) A_nil)))) A_nil))) (E_slc (V_sh C.toCxP 4 (by decide +kernel)) (O_some (E_pv (P_add (VP_var C.toCxP 5 (by decide +kernel)) P_int))) O_none))) rfl rfl rfl (fun _ => rfl))
 SS_nil)
 (SS_cons (V_setIx C.toCxP 2 (VQ_0 C.toCxP 2 (by decide +kernel)) (VP_var C.toCxP 3 (by decide +kernel)) (E_join rfl (noLc_base (fun _ _ _ h => by cases h)) rfl rfl (E_cat (V_mv C.toCxP 4 (by decide +kernel)) (E_lst (A_cons rfl (V_ixL C.toCxP 6 (by decide +kernel) rfl (V_call C.toCxP 7 (some (0, 0)) _ rfl (by decide) rfl (by decide +kernel) rfl (fun _ _ h => by cases h; exact ⟨rfl, by decide⟩) (VA_mv C.toCxP 0 (by decide +kernel) (A_cons rfl (E_pv (P_len (C.toCxP.bl (x := "len") (by decide +kernel)) rfl (VP_var C.toCxP 6 (by decide +kernel)))) A_nil)))) A_nil)))) rfl rfl rfl (fun _ => rfl))
 SS_nil))
 SS_nil))
 SS_nil))
 SS_nil))
 (SS_cons (S_ret (E_add (E_pv (P_join rfl (noLc_base (fun _ _ _ h => by cases h)) rfl rfl (VP_var C.toCxP 2 (by decide +kernel)))) (E_rep E_str (V_call C.toCxP 7 (some (0, 0)) _ rfl (by decide) rfl (by decide +kernel) rfl (fun _ _ h => by cases h; exact ⟨rfl, by decide⟩) (VA_mv C.toCxP 0 (by decide +kernel) (A_cons rfl E_int A_nil))))))
 SS_nil))))))))
/-! _law_asked -/
abbrev s_law_asked : Stmt := topS 28
def N_law_asked : List Str := ["tape", "steps", "lines", "text", "lap", "line"]
theorem c_law_asked : FnScope N_law_asked ["tape"] (defScope s_law_asked) := ⟨rfl, rfl, rfl, by decide +kernel, rfl, by decide +kernel, by decide +kernel⟩
def b_law_asked : Ss := .cons (.set 1 (.call 15 (.cons (.mv 0) (.nil)) (some (0, 0))))
 (.cons (.set 2 (.call 10 (.cons (.pv (.var 1)) (.nil)) none))
 (.cons (.ite (.not (.v (.call 8 (.cons (.call 3 (.cons (.pv (.var 1)) (.nil)) none) (.cons (.b .join (.c (.str "")) (.comp [5] (.seq (.sh 2)) (.name 5) (.none) (.pv (.b .add (.var 5) (.c (.str "\n")))))) (.nil))) none))) (.cons (.ret (.c (.bl false)))
 (.nil)) (.nil))
 (.cons (.fr (.name 3) (.seq (.tup (.cons (.pv (.b .join (.c (.str "\n")) (.var 2))) (.cons (.call 16 (.cons (.mv 0) (.cons (.sh 2) (.nil))) (some (0, 0))) (.nil))))) (.cons (.ite (.not (.v (.call 8 (.cons (.tup (.cons (.call 13 (.cons (.pv (.var 3)) (.nil)) none) (.cons (.call 12 (.cons (.pv (.var 3)) (.nil)) none) (.nil)))) (.cons (.tup (.cons (.tup (.cons (.c (.str "told")) (.cons (.pv (.var 1)) (.nil)))) (.cons (.tup (.cons (.c (.str "told")) (.cons (.pv (.var 1)) (.nil)))) (.nil)))) (.nil))) none))) (.cons (.ret (.c (.bl false)))
 (.nil)) (.nil))
 (.nil)))
 (.cons (.fr (.name 4) (.rng (.c (.int 5))) (.cons (.set 3 (.call 17 (.cons (.mv 0) (.cons (.sh 2) (.nil))) (some (0, 0))))
 (.cons (.ite (.pt (.v (.b .gt (.var 4) (.c (.int 3))))) (.cons (.set 3 (.call 17 (.cons (.mv 0) (.cons (.xe (splW (.var 3) (.c (.str "\n")))) (.nil))) (some (0, 0))))
 (.nil)) (.nil))
 (.cons (.ite (.not (.v (.call 8 (.cons (.call 13 (.cons (.pv (.var 3)) (.nil)) none) (.cons (.call 12 (.cons (.pv (.var 3)) (.nil)) none) (.nil))) none))) (.cons (.ret (.c (.bl false)))
 (.nil)) (.nil))
 (.nil)))))
 (.cons (.ret (.c (.bl true)))
 (.nil))))))
theorem r_law_asked {X : Cx} {Γ : Nat → Ct} (C : CxD X N_law_asked (defScope s_law_asked) BL FT [3, 8, 10, 12, 13, 15, 16, 17] Γ) : ESs X Γ [0] (defBody s_law_asked) b_law_asked :=
 (SS_cons (V_set C 1 (by decide +kernel) (V_call C.toCxP 15 (some (0, 0)) _ rfl (by decide) rfl (by decide +kernel) rfl (fun _ _ h => by cases h; exact ⟨rfl, by decide⟩) (VA_mv C.toCxP 0 (by decide +kernel) A_nil)) rfl)
 (SS_cons (V_set C 2 (by decide +kernel) (V_call C.toCxP 10 none _ rfl (by decide) rfl (by decide +kernel) rfl (fun _ _ h => nomatch h) (A_cons rfl (V_var C.toCxP 1 (by decide +kernel)) A_nil)) rfl)
 (SS_cons (S_if (T_not (T_v rfl (V_call C.toCxP 8 none _ rfl (by decide) rfl (by decide +kernel) rfl (fun _ _ h => nomatch h) (A_cons rfl (V_call C.toCxP 3 none _ rfl (by decide) rfl (by decide +kernel) rfl (fun _ _ h => nomatch h) (A_cons rfl (V_var C.toCxP 1 (by decide +kernel)) A_nil)) (A_cons rfl (E_join rfl (noLc_base (fun _ _ _ h => by cases h)) rfl rfl (V_comp C.toCxP [("line", 5)] (by decide +kernel) rfl (I_seq (V_sh C.toCxP 2 (by decide +kernel))) rfl (fun X' C' => (VGc_name C' 5 (by decide +kernel) (by decide +kernel))) (fun X' C' => TS_none) (fun X' C' => (E_pv (P_add (VP_var C' 5 (by decide +kernel)) P_str))))) A_nil)))))
 (SS_cons (S_ret E_bl)
 SS_nil)
 SS_nil)
 (SS_cons (V_for C (I_seq (E_tup (A_cons rfl (E_pv (P_join rfl (noLc_base (fun _ _ _ h => by cases h)) rfl rfl (VP_var C.toCxP 2 (by decide +kernel)))) (A_cons rfl (V_call C.toCxP 16 (some (0, 0)) _ rfl (by decide) rfl (by decide +kernel) rfl (fun _ _ h => by cases h; exact ⟨rfl, by decide⟩) (VA_mv C.toCxP 0 (by decide +kernel) (A_cons rfl (V_sh C.toCxP 2 (by decide +kernel)) A_nil))) A_nil)))) (VG_name C 3 (by decide +kernel))
 (SS_cons (S_if (T_not (T_v rfl (V_call C.toCxP 8 none _ rfl (by decide) rfl (by decide +kernel) rfl (fun _ _ h => nomatch h) (A_cons rfl (E_tup (A_cons rfl (V_call C.toCxP 13 none _ rfl (by decide) rfl (by decide +kernel) rfl (fun _ _ h => nomatch h) (A_cons rfl (V_var C.toCxP 3 (by decide +kernel)) A_nil)) (A_cons rfl (V_call C.toCxP 12 none _ rfl (by decide) rfl (by decide +kernel) rfl (fun _ _ h => nomatch h) (A_cons rfl (V_var C.toCxP 3 (by decide +kernel)) A_nil)) A_nil))) (A_cons rfl (E_tup (A_cons rfl (E_tup (A_cons rfl E_str (A_cons rfl (V_var C.toCxP 1 (by decide +kernel)) A_nil))) (A_cons rfl (E_tup (A_cons rfl E_str (A_cons rfl (V_var C.toCxP 1 (by decide +kernel)) A_nil))) A_nil))) A_nil)))))
 (SS_cons (S_ret E_bl)
 SS_nil)
 SS_nil)
 SS_nil) rfl)
 (SS_cons (V_for C (I_rng (C.toCxP.bl (x := "range") (by decide +kernel)) rfl E_int) (VG_name C 4 (by decide +kernel))
 (SS_cons (V_set C 3 (by decide +kernel) (V_call C.toCxP 17 (some (0, 0)) _ rfl (by decide) rfl (by decide +kernel) rfl (fun _ _ h => by cases h; exact ⟨rfl, by decide⟩) (VA_mv C.toCxP 0 (by decide +kernel) (A_cons rfl (V_sh C.toCxP 2 (by decide +kernel)) A_nil))) rfl)
 (SS_cons (S_if (T_pt (PT_gt rfl (VP_var C.toCxP 4 (by decide +kernel)) P_int))
 (SS_cons (V_set C 3 (by decide +kernel) (V_call C.toCxP 17 (some (0, 0)) _ rfl (by decide) rfl (by decide +kernel) rfl (fun _ _ h => by cases h; exact ⟨rfl, by decide⟩) (VA_mv C.toCxP 0 (by decide +kernel) (A_cons rfl (E_split rfl (noLc_base (fun _ _ _ h => by cases h)) rfl (VP_var C.toCxP 3 (by decide +kernel)) P_str) A_nil))) rfl)
 SS_nil)
 SS_nil)
 (SS_cons (S_if (T_not (T_v rfl (V_call C.toCxP 8 none _ rfl (by decide) rfl (by decide +kernel) rfl (fun _ _ h => nomatch h) (A_cons rfl (V_call C.toCxP 13 none _ rfl (by decide) rfl (by decide +kernel) rfl (fun _ _ h => nomatch h) (A_cons rfl (V_var C.toCxP 3 (by decide +kernel)) A_nil)) (A_cons rfl (V_call C.toCxP 12 none _ rfl (by decide) rfl (by decide +kernel) rfl (fun _ _ h => nomatch h) (A_cons rfl (V_var C.toCxP 3 (by decide +kernel)) A_nil)) A_nil)))))
 (SS_cons (S_ret E_bl)
 SS_nil)
 SS_nil)
 SS_nil))) rfl)
 (SS_cons (S_ret E_bl)
 SS_nil))))))
/-! law -/
abbrev slaw : Stmt := topS 29
def Nlaw : List Str := ["script", "tape", "lap", "rows", "more", "long", "text", "due"]
theorem claw : FnScope Nlaw ["script"] (defScope slaw) := ⟨rfl, rfl, rfl, by decide +kernel, rfl, by decide +kernel, by decide +kernel⟩
def blaw : Ss := .cons (.set 1 (.call 6 (.cons (.pv (.var 0)) (.nil)) none))
 (.cons (.fr (.name 2) (.rng (.c (.int 3))) (.cons (.ite (.not (.v (.call 18 (.cons (.mv 1) (.nil)) (some (0, 1))))) (.cons (.ret (.c (.bl false)))
 (.nil)) (.nil))
 (.nil)))
 (.cons (.set 3 (.lst (.cons (.tup (.cons (.c (.str "")) (.cons (.tup (.cons (.c (.str "told")) (.cons (.tup (.nil)) (.nil)))) (.nil)))) (.cons (.tup (.cons (.c (.str "# x\n\n")) (.cons (.tup (.cons (.c (.str "told")) (.cons (.tup (.nil)) (.nil)))) (.nil)))) (.cons (.tup (.cons (.c (.str "do add 0 2 1\nask sq 0 2")) (.cons (.tup (.cons (.c (.str "told")) (.cons (.tup (.cons (.tup (.cons (.c (.str "do")) (.cons (.c (.str "add")) (.cons (.tup (.cons (.c (.int 0)) (.cons (.c (.int 2)) (.nil)))) (.cons (.tup (.cons (.c (.int 1)) (.nil))) (.nil)))))) (.cons (.tup (.cons (.c (.str "ask")) (.cons (.c (.str "sq")) (.cons (.tup (.cons (.c (.int 0)) (.cons (.c (.int 2)) (.nil)))) (.nil))))) (.nil)))) (.nil)))) (.nil)))) (.nil))))))
 (.cons (.ex (.mth .extend 3 (.cons (.lst (.cons (.tup (.cons (.c (.str "does add 0 1")) (.cons (.tup (.cons (.c (.str "line")) (.cons (.c (.int 1)) (.cons (.c (.str "words")) (.nil))))) (.nil)))) (.cons (.tup (.cons (.c (.str "do add 0")) (.cons (.tup (.cons (.c (.str "line")) (.cons (.c (.int 1)) (.cons (.c (.str "words")) (.nil))))) (.nil)))) (.cons (.tup (.cons (.c (.str "\nask q 0 1 2")) (.cons (.tup (.cons (.c (.str "line")) (.cons (.c (.int 2)) (.cons (.c (.str "words")) (.nil))))) (.nil)))) (.nil))))) (.nil))))
 (.cons (.ex (.mth .extend 3 (.cons (.lst (.cons (.tup (.cons (.c (.str "ask q 0")) (.cons (.tup (.cons (.c (.str "line")) (.cons (.c (.int 1)) (.cons (.c (.str "words")) (.nil))))) (.nil)))) (.cons (.tup (.cons (.c (.str "do add 00 1")) (.cons (.tup (.cons (.c (.str "line")) (.cons (.c (.int 1)) (.cons (.c (.str "integer")) (.nil))))) (.nil)))) (.cons (.tup (.cons (.c (.str "do add 0 1 -0")) (.cons (.tup (.cons (.c (.str "line")) (.cons (.c (.int 1)) (.cons (.c (.str "integer")) (.nil))))) (.nil)))) (.nil))))) (.nil))))
 (.cons (.ex (.mth .extend 3 (.cons (.lst (.cons (.tup (.cons (.c (.str "ask q x 1")) (.cons (.tup (.cons (.c (.str "line")) (.cons (.c (.int 1)) (.cons (.c (.str "integer")) (.nil))))) (.nil)))) (.cons (.tup (.cons (.c (.str "ask x 1\ndo y 0 z")) (.cons (.tup (.cons (.c (.str "line")) (.cons (.c (.int 1)) (.cons (.c (.str "words")) (.nil))))) (.nil)))) (.nil)))) (.nil))))
 (.cons (.ex (.mth .extend 3 (.cons (.lst (.cons (.tup (.cons (.pv (.b .add (.c (.str "do 7 5 -3 ")) (.xp (mulS (.c (.str "9")) (.c (.int 60)))))) (.cons (.tup (.cons (.c (.str "told")) (.cons (.tup (.cons (.tup (.cons (.c (.str "do")) (.cons (.c (.str "7")) (.cons (.tup (.cons (.c (.int 5)) (.cons (.pv (.u .neg (.c (.int 3)))) (.nil)))) (.cons (.tup (.cons (.pv (.b .sub (.b .pow (.c (.int 10)) (.c (.int 60))) (.c (.int 1)))) (.nil))) (.nil)))))) (.nil))) (.nil)))) (.nil)))) (.nil))) (.nil))))
 (.cons (.ex (.mth .append 3 (.cons (.tup (.cons (.pv (.b .add (.c (.str "do d 0 1 ")) (.xp (mulS (.c (.str "9")) (.c (.int 61)))))) (.cons (.tup (.cons (.c (.str "line")) (.cons (.c (.int 1)) (.cons (.c (.str "integer")) (.nil))))) (.nil)))) (.nil))))
 (.cons (.fr (.tup [(.name 6), (.name 7)]) (.seq (.mv 3)) (.cons (.ite (.not (.v (.call 8 (.cons (.call 13 (.cons (.pv (.var 6)) (.nil)) none) (.cons (.pv (.var 7)) (.nil))) none))) (.cons (.ret (.c (.bl false)))
 (.nil)) (.nil))
 (.nil)))
 (.cons (.set 4 (.call 7 (.cons (.mv 1) (.cons (.c (.int 2)) (.nil))) (some (0, 1))))
 (.cons (.set 5 (.pv (.b .add (.c (.str "ask q 0 1")) (.xp (mulS (.c (.str " ")) (.b .add (.c (.int 1991)) (.var 4)))))))
 (.cons (.set 6 (.pv (.b .add (.xp (mulS (.c (.str "ask q 0 1\n")) (.c (.int 399)))) (.xp (mulS (.c (.str "#\n")) (.b .add (.c (.int 1)) (.var 4)))))))
 (.cons (.set 7 (.ite (.pt (.v (.b .eq (.var 4) (.c (.int 0))))) (.tup (.cons (.c (.str "told")) (.cons (.rep (.tup (.cons (.tup (.cons (.c (.str "ask")) (.cons (.c (.str "q")) (.cons (.tup (.cons (.c (.int 0)) (.cons (.c (.int 1)) (.nil)))) (.nil))))) (.nil))) (.c (.int 399))) (.nil)))) (.tup (.cons (.c (.str "line")) (.cons (.c (.int 401)) (.cons (.c (.str "limit")) (.nil)))))))
 (.cons (.ite (.not (.v (.call 8 (.cons (.call 13 (.cons (.pv (.var 6)) (.nil)) none) (.cons (.pv (.var 7)) (.nil))) none))) (.cons (.ret (.c (.bl false)))
 (.nil)) (.nil))
 (.cons (.ret (.call 8 (.cons (.tup (.cons (.call 13 (.cons (.pv (.b .add (.c (.str "#\n")) (.var 5))) (.nil)) none) (.cons (.callP 3 [0] (.cons (.tup (.cons (.tup (.cons (.c (.str "ask")) (.cons (.c (.str "q")) (.cons (.tup (.cons (.c (.int 0)) (.cons (.c (.int 1)) (.nil)))) (.nil))))) (.nil))) (.nil))) (.nil)))) (.cons (.tup (.cons (.ite (.pt (.v (.b .eq (.var 4) (.c (.int 0))))) (.tup (.cons (.c (.str "told")) (.cons (.tup (.cons (.tup (.cons (.c (.str "ask")) (.cons (.c (.str "q")) (.cons (.tup (.cons (.c (.int 0)) (.cons (.c (.int 1)) (.nil)))) (.nil))))) (.nil))) (.nil)))) (.tup (.cons (.c (.str "line")) (.cons (.c (.int 2)) (.cons (.c (.str "limit")) (.nil)))))) (.cons (.c (.str "ask q 0 1\n")) (.nil)))) (.nil))) none))
 (.nil)))))))))))))))
theorem rlaw {X : Cx} {Γ : Nat → Ct} (C : CxD X Nlaw (defScope slaw) BL FT [3, 6, 7, 8, 13, 18] Γ) : ESs X Γ [] (defBody slaw) blaw :=
 (SS_cons (V_set C 1 (by decide +kernel) (V_call C.toCxP 6 none _ rfl (by decide) rfl (by decide +kernel) rfl (fun _ _ h => nomatch h) (A_cons rfl (V_var C.toCxP 0 (by decide +kernel)) A_nil)) rfl)
 (SS_cons (V_for C (I_rng (C.toCxP.bl (x := "range") (by decide +kernel)) rfl E_int) (VG_name C 2 (by decide +kernel))
 (SS_cons (S_if (T_not (T_v rfl (V_call C.toCxP 18 (some (0, 1)) _ rfl (by decide) rfl (by decide +kernel) rfl (fun _ _ h => by cases h; exact ⟨rfl, by decide⟩) (VA_mv C.toCxP 1 (by decide +kernel) A_nil))))
 (SS_cons (S_ret E_bl)
 SS_nil)
 SS_nil)
 SS_nil) rfl)
 (SS_cons (V_set C 3 (by decide +kernel) (E_lst (A_cons rfl (E_tup (A_cons rfl E_str (A_cons rfl (E_tup (A_cons rfl E_str (A_cons rfl (E_tup A_nil) A_nil))) A_nil))) (A_cons rfl (E_tup (A_cons rfl E_str (A_cons rfl (E_tup (A_cons rfl E_str (A_cons rfl (E_tup A_nil) A_nil))) A_nil))) (A_cons rfl (E_tup (A_cons rfl E_str (A_cons rfl (E_tup (A_cons rfl E_str (A_cons rfl (E_tup (A_cons rfl (E_tup (A_cons rfl E_str (A_cons rfl E_str (A_cons rfl (E_tup (A_cons rfl E_int (A_cons rfl E_int A_nil))) (A_cons rfl (E_tup (A_cons rfl E_int A_nil)) A_nil))))) (A_cons rfl (E_tup (A_cons rfl E_str (A_cons rfl E_str (A_cons rfl (E_tup (A_cons rfl E_int (A_cons rfl E_int A_nil))) A_nil)))) A_nil))) A_nil))) A_nil))) A_nil)))) rfl)
 (SS_cons (V_ex (V_extend C.toCxP 3 (by decide +kernel) ⟨rfl⟩ rfl rfl (A_cons rfl (E_lst (A_cons rfl (E_tup (A_cons rfl E_str (A_cons rfl (E_tup (A_cons rfl E_str (A_cons rfl E_int (A_cons rfl E_str A_nil)))) A_nil))) (A_cons rfl (E_tup (A_cons rfl E_str (A_cons rfl (E_tup (A_cons rfl E_str (A_cons rfl E_int (A_cons rfl E_str A_nil)))) A_nil))) (A_cons rfl (E_tup (A_cons rfl E_str (A_cons rfl (E_tup (A_cons rfl E_str (A_cons rfl E_int (A_cons rfl E_str A_nil)))) A_nil))) A_nil)))) A_nil)) rfl)
 (SS_cons (V_ex (V_extend C.toCxP 3 (by decide +kernel) ⟨rfl⟩ rfl rfl (A_cons rfl (E_lst (A_cons rfl (E_tup (A_cons rfl E_str (A_cons rfl (E_tup (A_cons rfl E_str (A_cons rfl E_int (A_cons rfl E_str A_nil)))) A_nil))) (A_cons rfl (E_tup (A_cons rfl E_str (A_cons rfl (E_tup (A_cons rfl E_str (A_cons rfl E_int (A_cons rfl E_str A_nil)))) A_nil))) (A_cons rfl (E_tup (A_cons rfl E_str (A_cons rfl (E_tup (A_cons rfl E_str (A_cons rfl E_int (A_cons rfl E_str A_nil)))) A_nil))) A_nil)))) A_nil)) rfl)
 (SS_cons (V_ex (V_extend C.toCxP 3 (by decide +kernel) ⟨rfl⟩ rfl rfl (A_cons rfl (E_lst (A_cons rfl (E_tup (A_cons rfl E_str (A_cons rfl (E_tup (A_cons rfl E_str (A_cons rfl E_int (A_cons rfl E_str A_nil)))) A_nil))) (A_cons rfl (E_tup (A_cons rfl E_str (A_cons rfl (E_tup (A_cons rfl E_str (A_cons rfl E_int (A_cons rfl E_str A_nil)))) A_nil))) A_nil))) A_nil)) rfl)
 (SS_cons (V_ex (V_extend C.toCxP 3 (by decide +kernel) ⟨rfl⟩ rfl rfl (A_cons rfl (E_lst (A_cons rfl (E_tup (A_cons rfl (E_pv (P_add P_str (P_mulS P_str P_int))) (A_cons rfl (E_tup (A_cons rfl E_str (A_cons rfl (E_tup (A_cons rfl (E_tup (A_cons rfl E_str (A_cons rfl E_str (A_cons rfl (E_tup (A_cons rfl E_int (A_cons rfl (E_pv (P_neg P_int)) A_nil))) (A_cons rfl (E_tup (A_cons rfl (E_pv (P_sub (P_pow P_int P_int) P_int)) A_nil)) A_nil))))) A_nil)) A_nil))) A_nil))) A_nil)) A_nil)) rfl)
 (SS_cons (V_ex (V_append C.toCxP 3 (by decide +kernel) ⟨rfl⟩ rfl rfl (A_cons rfl (E_tup (A_cons rfl (E_pv (P_add P_str (P_mulS P_str P_int))) (A_cons rfl (E_tup (A_cons rfl E_str (A_cons rfl E_int (A_cons rfl E_str A_nil)))) A_nil))) A_nil)) rfl)
 (SS_cons (V_for C (I_seq (V_mv C.toCxP 3 (by decide +kernel))) (VG_tup C.toCxP (GS_cons (VG_name C 6 (by decide +kernel)) (GS_cons (VG_name C 7 (by decide +kernel)) GS_nil rfl) rfl) rfl rfl rfl)
 (SS_cons (S_if (T_not (T_v rfl (V_call C.toCxP 8 none _ rfl (by decide) rfl (by decide +kernel) rfl (fun _ _ h => nomatch h) (A_cons rfl (V_call C.toCxP 13 none _ rfl (by decide) rfl (by decide +kernel) rfl (fun _ _ h => nomatch h) (A_cons rfl (V_var C.toCxP 6 (by decide +kernel)) A_nil)) (A_cons rfl (V_var C.toCxP 7 (by decide +kernel)) A_nil)))))
 (SS_cons (S_ret E_bl)
 SS_nil)
 SS_nil)
 SS_nil) rfl)
 (SS_cons (V_set C 4 (by decide +kernel) (V_call C.toCxP 7 (some (0, 1)) _ rfl (by decide) rfl (by decide +kernel) rfl (fun _ _ h => by cases h; exact ⟨rfl, by decide⟩) (VA_mv C.toCxP 1 (by decide +kernel) (A_cons rfl E_int A_nil))) rfl)
 (SS_cons (V_set C 5 (by decide +kernel) (E_pv (P_add P_str (P_mulS P_str (P_add P_int (VP_var C.toCxP 4 (by decide +kernel)))))) rfl)
 (SS_cons (V_set C 6 (by decide +kernel) (E_pv (P_add (P_mulS P_str P_int) (P_mulS P_str (P_add P_int (VP_var C.toCxP 4 (by decide +kernel)))))) rfl)
 (SS_cons (V_set C 7 (by decide +kernel) (E_ite (T_pt (PT_eq C.toCxP.hu rfl (VP_var C.toCxP 4 (by decide +kernel)) P_int)) (E_tup (A_cons rfl E_str (A_cons rfl (E_rep (E_tup (A_cons rfl (E_tup (A_cons rfl E_str (A_cons rfl E_str (A_cons rfl (E_tup (A_cons rfl E_int (A_cons rfl E_int A_nil))) A_nil)))) A_nil)) E_int) A_nil))) (E_tup (A_cons rfl E_str (A_cons rfl E_int (A_cons rfl E_str A_nil))))) rfl)
 (SS_cons (S_if (T_not (T_v rfl (V_call C.toCxP 8 none _ rfl (by decide) rfl (by decide +kernel) rfl (fun _ _ h => nomatch h) (A_cons rfl (V_call C.toCxP 13 none _ rfl (by decide) rfl (by decide +kernel) rfl (fun _ _ h => nomatch h) (A_cons rfl (V_var C.toCxP 6 (by decide +kernel)) A_nil)) (A_cons rfl (V_var C.toCxP 7 (by decide +kernel)) A_nil)))))
 (SS_cons (S_ret E_bl)
 SS_nil)
 SS_nil)
 (SS_cons (S_ret (V_call C.toCxP 8 none _ rfl (by decide) rfl (by decide +kernel) rfl (fun _ _ h => nomatch h) (A_cons rfl (E_tup (A_cons rfl (V_call C.toCxP 13 none _ rfl (by decide) rfl (by decide +kernel) rfl (fun _ _ h => nomatch h) (A_cons rfl (E_pv (P_add P_str (VP_var C.toCxP 5 (by decide +kernel)))) A_nil)) (A_cons rfl (V_callP C.toCxP 3 ["script"] [0] _ rfl (by decide) rfl (by decide +kernel) (by decide) rfl rfl rfl (K_cons (E_tup (A_cons rfl (E_tup (A_cons rfl E_str (A_cons rfl E_str (A_cons rfl (E_tup (A_cons rfl E_int (A_cons rfl E_int A_nil))) A_nil)))) A_nil)) K_nil)) A_nil))) (A_cons rfl (E_tup (A_cons rfl (E_ite (T_pt (PT_eq C.toCxP.hu rfl (VP_var C.toCxP 4 (by decide +kernel)) P_int)) (E_tup (A_cons rfl E_str (A_cons rfl (E_tup (A_cons rfl (E_tup (A_cons rfl E_str (A_cons rfl E_str (A_cons rfl (E_tup (A_cons rfl E_int (A_cons rfl E_int A_nil))) A_nil)))) A_nil)) A_nil))) (E_tup (A_cons rfl E_str (A_cons rfl E_int (A_cons rfl E_str A_nil))))) (A_cons rfl E_str A_nil))) A_nil))))
 SS_nil)))))))))))))))
end K07
set_option Elab.async false
set_option linter.all false
set_option maxRecDepth 100000
set_option autoImplicit false
namespace K07
open PySem L2 Z
/-! ## _law_same -/
def ct_same : Ct := fun ds r o => ∃ x y, ds = [x, y] ∧ same x y = true ∧ szD y ≤ 1000000 ∧ r = .at (.bl true) ∧ o = none
theorem l_same {Γ : Nat → Ct} : ∀ ds r o, ct_same ds r o → ds.length = 2 ∧ wpSs Γ b_law_same (startD 6 ds) (retW none r o) := by
  rintro ds r o ⟨x, y, rfl, hs, hz, rfl, rfl⟩
  refine ⟨rfl, ?_⟩
  have hf := same_froz x y hs
  have h2 := size2
  simp [b_law_same, wpSs, Z.wpS, wpE, wpP, wpPT, wpT, wpEs, wpO, wpOT, wpIt, hf.1, hf.2, size2]
  refine ⟨by decide, ?_⟩
  refine whl_ind (fun m δ => ∃ ws a b c, δ = [some x, some y, some (.nd .lst true (ws.map twD)), a, b, c] ∧ (∀ p ∈ ws, same p.1 p.2 = true) ∧ tot ws = m ∧ m ≤ 1000000) ?_ (m := szD y) ⟨[(x, y)], _, _, _, rfl, by simpa using hs, by simp [tot], hz⟩
  rintro m δ ⟨ws, a, b, c, rfl, hw, hm, hm2⟩ K k1
  rcases List.eq_nil_or_concat ws with rfl | ⟨ws, ⟨p, q⟩, rfl⟩
  · simp
  · have hpq : same p q = true := hw (p, q) (by simp)
    have hf2 := same_froz p q hpq
    have hw2 : ∀ p ∈ ws, same p.1 p.2 = true := fun p hp => hw p (by simp [hp])
    have ht : tot ws + szD q = m := by rw [← hm, List.concat_eq_append, tot_app]; simp [tot]
    have hq := szD_pos q
    simp [twD, List.concat_eq_append, hf2.1, hf2.2]
    have kk : ∀ c, K [some x, some y, some (.nd .lst true (ws.map twD)), some p, some q, c] := fun c => k1 (tot ws) _ (by omega) ⟨ws, _, _, _, rfl, hw2, rfl, by omega⟩
    match p, q, hpq, kk, ht with
    | .at (.int i), .at (.int j), h, kk, ht =>
      obtain rfl : i = j := by simpa [same] using h
      simp [isTy, Z.isNon, kk]
    | .at (.str i), .at (.str j), h, kk, ht =>
      obtain rfl : i = j := by simpa [same] using h
      simp [isTy, Z.isNon, kk]
    | .at (.bl i), .at (.bl j), h, kk, ht =>
      obtain rfl : i = j := by simpa [same] using h
      simp [isTy, Z.isNon, kk]
    | .at .non, .at .non, h, kk, ht => simp [isTy, Z.isNon, kk]
    | .nd .tup o1 xs, .nd .tup o2 ys, h, kk, ht =>
      have hsz : sames xs ys = true := h
      have hl := sames_len hsz
      simp [isTy, Z.isNon, hl]
      have hyl := tot_zip hl
      have htl := tot_len (xs.zip ys)
      have hws := tot_len ws
      have := sizeK
      simp only [szD] at ht
      have hzl : (xs.zip ys).length = ys.length := by rw [List.length_zip, hl, Nat.min_self]
      refine ⟨by omega, ?_⟩
      refine forC_mapL (fun (i : Nat) => D.at (.int i)) (fun i => twD (xs.getD i (.at .non), ys.getD i (.at .non))) (List.range ys.length) _ (fun i hi k hk => ?_) (by simp; omega) ?_
      · have hi : i < ys.length := by simpa using hi
        have g1 : xs[i]? = some (xs[i]'(by omega)) := List.getElem?_eq_getElem (by omega)
        have g2 : ys[i]? = some (ys[i]'hi) := List.getElem?_eq_getElem hi
        have g3 : (xs.zip ys)[i]? = some (xs[i]'(by omega), ys[i]'hi) := List.getElem?_zip_eq_some.mpr ⟨g1, g2⟩
        have hm3 := sames_zip hsz _ (List.mem_of_getElem? g3)
        have hf3 := same_froz _ _ hm3
        have a1 := atI_nat g1
        have a2 := atI_nat g2
        simp only at hf3
        simp [a1, a2, hf3.1, hf3.2, h2]
        simpa [twD, g1, g2, List.getD_eq_getElem?_getD] using hk
      · have ez : (List.range ys.length).map (fun i => twD (xs.getD i (.at .non), ys.getD i (.at .non))) = (xs.zip ys).map twD := by
          have : (List.range ys.length).map (fun i => (xs.getD i (D.at .non), ys.getD i (D.at .non))) = xs.zip ys := by
            apply List.ext_getElem?
            intro i
            by_cases hi : i < ys.length
            · have g1 : xs[i]? = some (xs[i]'(by omega)) := List.getElem?_eq_getElem (by omega)
              have g2 : ys[i]? = some (ys[i]'hi) := List.getElem?_eq_getElem hi
              have g3 : (xs.zip ys)[i]? = some (xs[i]'(by omega), ys[i]'hi) := List.getElem?_zip_eq_some.mpr ⟨g1, g2⟩
              rw [g3, List.getElem?_map, List.getElem?_range hi, Option.map_some, List.getD_eq_getElem?_getD, List.getD_eq_getElem?_getD, g1, g2]; rfl
            · rw [List.getElem?_eq_none (by simpa using hi), List.getElem?_eq_none (by omega)]
          rw [← this, List.map_map]; rfl
        rw [ez]
        simp
        refine ⟨by omega, ?_⟩
        have k3 := k1 (tot (ws ++ xs.zip ys)) [some x, some y, some (.nd .lst true ((ws ++ xs.zip ys).map twD)), some (.nd .tup o1 xs), some (.nd .tup o2 ys), c] (by rw [tot_app]; omega) ⟨ws ++ xs.zip ys, _, _, _, rfl, fun p hp => ?_, rfl, ?_⟩
        · simpa using k3
        · rcases List.mem_append.mp hp with hp | hp
          · exact hw2 p hp
          · exact sames_zip hsz p hp
        · rw [tot_app]; omega
/-! ## the tape -/
structure Tape where
  ns : List Int
  at' : Int
  mx : Int
structure TapeOk (t : Tape) : Prop where
  ns : ∀ d ∈ t.ns, 0 ≤ d
  pos : 0 ≤ t.at'
  mx : 0 ≤ t.mx ∧ t.mx < 2 ^ 40
def tapeD (t : Tape) : D := .nd .lst true [.nd .lst true (iL t.ns), .at (.int t.at'), .at (.int t.mx)]
def pickF (t : Tape) (m : Int) : Int × Tape :=
  if t.at' + 1 ≤ t.ns.length then (t.ns.getD t.at'.toNat 0 % m, ⟨t.ns, t.at' + 1, t.mx⟩)
  else ((t.mx * 48271 + 1733) % 2147483629 / 61 % m, ⟨t.ns, t.at' + 1, (t.mx * 48271 + 1733) % 2147483629⟩)
theorem pick_ok {t : Tape} {m : Int} (h : TapeOk t) (hm : 0 < m) : 0 ≤ (pickF t m).1 ∧ (pickF t m).1 < m ∧ TapeOk (pickF t m).2 := by
  have hp := h.pos
  unfold pickF
  split
  · exact ⟨Int.emod_nonneg _ (by omega), Int.emod_lt_of_pos _ hm, h.ns, by show 0 ≤ t.at' + 1; omega, h.mx⟩
  · refine ⟨Int.emod_nonneg _ (by omega), Int.emod_lt_of_pos _ hm, h.ns, by show 0 ≤ t.at' + 1; omega, Int.emod_nonneg _ (by decide), ?_⟩
    have := Int.emod_lt_of_pos (t.mx * 48271 + 1733) (show (0 : Int) < 2147483629 by decide)
    show (t.mx * 48271 + 1733) % 2147483629 < 2 ^ 40
    omega
def ct_pick : Ct := fun ds r o => ∃ t m, ds = [tapeD t, .at (.int m)] ∧ TapeOk t ∧ 0 < m ∧ m ≤ 10 ^ 12 ∧ r = .at (.int (pickF t m).1) ∧ o = some (tapeD (pickF t m).2)
theorem pick_call {t : Tape} {m : Int} (h : TapeOk t) (hm : 0 < m) (hm2 : m ≤ 10 ^ 12) : ∃ (k : Nat) (t' : Tape), (k : Int) < m ∧ TapeOk t' ∧ ct_pick [tapeD t, .at (.int m)] (.at (.int k)) (some (tapeD t')) := by
  have h2 := pick_ok h hm
  refine ⟨(pickF t m).1.toNat, (pickF t m).2, by omega, h2.2.2, t, m, rfl, h, hm, hm2, ?_, rfl⟩
  rw [Int.toNat_of_nonneg h2.1]
theorem l_pick {Γ : Nat → Ct} : ∀ ds r o, ct_pick ds r o → ds.length = 2 ∧ wpSs Γ b_law_pick (startD 2 ds) (retW (some 0) r o) := by
  rintro ds r o ⟨⟨ns, a, x⟩, m, rfl, ht, hm, hm2, rfl, rfl⟩
  refine ⟨rfl, ?_⟩
  have hx := ht.mx
  have hp := ht.pos
  simp only at hx hp
  have hlog : m.natAbs.log2 < 9000 := by
    have : m.natAbs ≤ 2 ^ 40 := by omega
    have := log2_of this
    omega
  simp [b_law_pick, wpSs, Z.wpS, wpE, wpP, wpPT, wpT, wpEs, wpO, wpOT, wpIt, tapeD, Z.putAt]
  by_cases h : a + 1 ≤ ns.length
  · have e := atI_iL (m := ns) (i := a.toNat) (by omega)
    rw [Int.toNat_of_nonneg hp] at e
    have ea : a + 1 - 1 = a := by omega
    simp [h, pickF, ea, e, hm]
  · simp [h, pickF, Z.putAt]
    exact ⟨.inl (cmul_of (a := 40) (b := 20) (by omega) (by decide) (by omega)), ⟨by decide, by decide⟩, hm⟩
def step1 (t : List Int × Int) (c : Int) : List Int × Int :=
  let size := (if c < 0 then -c else c) % 2 ^ 2000
  let mixed := (t.2 * 40014 + size % 2147483489 + 93) % 2147483563
  (t.1, mixed)
/-- the tape of a script: any numbers will do -/
def G_tape : Ct := fun ds r o => (∃ ns, ds = [.nd .lst false (iL ns)] ∧ ns.length ≤ 63) ∧ (∃ t, TapeOk t ∧ r = tapeD t) ∧ o = none
theorem cut63 (ns : List Int) : (List.drop (HT.sIx ns.length 0 none) (iL ns)).take (HT.sIx ns.length ns.length (some 63) - HT.sIx ns.length 0 none) = iL (ns.take 63) := by
  rw [show HT.sIx ns.length 0 none = 0 from rfl, show HT.sIx ns.length ns.length (some 63) = min 63 ns.length from HT.sIx_nat _ _ 63]
  simp [iL, List.map_take]
def two2000 : Int := 2 ^ 2000
theorem two_pos : 0 < two2000 := by unfold two2000; exact Int.pow_pos (by decide)
def G0 : Nat → Ct := fun _ _ _ _ => False
def ct_tape : Ct := ctOf G0 b_law_tape 1 7 none G_tape
theorem tape_call {ns : List Int} (hl : ns.length ≤ 63) : ∃ t, TapeOk t ∧ ct_tape [.nd .lst false (iL ns)] (tapeD t) none := by
  have key : ∃ r o, ctOf G0 b_law_tape 1 7 none G_tape [.nd .lst false (iL ns)] r o := by
    refine ctOf_ex (by simp [b_law_tape, okSs, okS, okE, okT, okEs, okIt, okO]) rfl ?_
    simp [b_law_tape, wpSs, Z.wpS, wpE, wpP, wpPT, wpT, wpEs, wpO, wpOT, wpIt]
    rw [cut63]
    refine ⟨frozL_iL ns, frozL_iL _, ?_⟩
    have two := two_pos
    refine forW_ix (fun i δ => ∃ xs m a b c d, δ = [some (.nd .lst false (iL ns)), some (.nd .lst true (iL xs)), some (.at (.int m)), a, b, c, d] ∧ (∀ d ∈ xs, 0 ≤ d) ∧ xs.length ≤ 60 * i ∧ 0 ≤ m ∧ m < 2 ^ 40) _ _ 0 _ ⟨[], _, _, _, _, _, rfl, by simp, by simp, by decide, by decide⟩ ?_ ?_
    · rintro i d δ hd ⟨xs, m, a, b, c, e, rfl, hx, hxl, hm, hm2⟩ k k1 _ _ _ _
      have hi := (List.getElem?_eq_some_iff.mp hd).1
      have hi : i < 63 := by simp at hi; omega
      rw [Nat.zero_add] at hxl
      rw [List.getElem?_map] at hd
      obtain ⟨v, e1, rfl⟩ := Option.map_eq_some_iff.mp hd
      have hmul : CMulW m 40014 ∨ CMul m 40014 := .inl (cmul_of (a := 40) (b := 20) (by omega) (by decide) (by omega))
      have hp1 : CPow 1 2000 := ⟨by decide, by decide, by decide⟩
      have hp2 : CPow 10 18 := ⟨by decide, by decide, by decide⟩
      have ht : (0 : Int) < 2 ^ 2000 := two
      have hs0 : 0 ≤ (if v < 0 then -v else v) % 2 ^ 2000 := Int.emod_nonneg _ (by omega)
      have hs1 : (if v < 0 then -v else v) % 2 ^ 2000 < 2 ^ 2000 := Int.emod_lt_of_pos _ ht
      simp [hmul, hp1, hp2, ht]
      generalize (if v < 0 then -v else v) % 2 ^ 2000 = sz at *
      have n0 : 0 ≤ (m * 40014 + sz % 2147483489 + 93) % 2147483563 := Int.emod_nonneg _ (by decide)
      have n1 : (m * 40014 + sz % 2147483489 + 93) % 2147483563 < 2147483563 := Int.emod_lt_of_pos _ (by decide)
      generalize (m * 40014 + sz % 2147483489 + 93) % 2147483563 = m2 at *
      have hK := sizeK
      by_cases h : 1000000000000000000 ≤ sz
      · simp [h]
        refine forW_brk (fun j δ => ∃ ys z g, δ = [some (.nd .lst false (iL ns)), some (.nd .lst true (iL ys)), some (.at (.int m2)), some (.at (.int v)), some (.at (.int z)), g, e] ∧ (∀ d ∈ ys, 0 ≤ d) ∧ ys.length ≤ 60 * i + j ∧ 0 ≤ z ∧ z < 2 ^ 2000)
          (fun δ => ∃ ys z g, δ = [some (.nd .lst false (iL ns)), some (.nd .lst true (iL ys)), some (.at (.int m2)), some (.at (.int v)), some (.at (.int z)), g, e] ∧ (∀ d ∈ ys, 0 ≤ d) ∧ ys.length ≤ 60 * i + 60) _ _ 0 _ ⟨xs, sz, c, rfl, hx, by omega, hs0, hs1⟩ ?_ ?_ ?_
        · rintro j d δ hd ⟨ys, z, g, rfl, hy, hyl, hz, hz2⟩ k k1 _ kb _ _
          have hj := (List.getElem?_eq_some_iff.mp hd).1
          have hj : j < 60 := by simpa using hj
          rw [Nat.zero_add] at hyl
          rw [List.getElem?_map] at hd
          obtain ⟨w, _, rfl⟩ := Option.map_eq_some_iff.mp hd
          by_cases h0 : z = 0
          · subst h0
            simp
            exact kb _ ⟨ys, 0, _, rfl, hy, by omega⟩
          · have hyl2 : ys.length < sizeLine := by omega
            have hdiv : CDivW z 5040 := ⟨by decide, by decide⟩
            have k2 := k1 [some (.nd .lst false (iL ns)), some (.nd .lst true (iL (ys ++ [z % 5040]))), some (.at (.int m2)), some (.at (.int v)), some (.at (.int (z / 5040))), some (.at (.int w)), e] ⟨_, z / 5040, _, rfl, fun d hd => ?_, ?_, by omega, by omega⟩
            · simp [h0, hyl2, hdiv]
              simpa [iL] using k2
            · rcases List.mem_append.mp hd with hd | hd
              · exact hy d hd
              · simp at hd; subst hd; exact Int.emod_nonneg _ (by decide)
            · simp; omega
        · rintro δ ⟨ys, z, g, rfl, hy, hyl, _, _⟩
          exact ⟨ys, z, g, rfl, hy, by simpa using hyl⟩
        · rintro δ ⟨ys, z, g, rfl, hy, hyl⟩
          exact k1 _ ⟨ys, m2, _, _, _, _, rfl, hy, by omega, n0, by omega⟩
      · have hxl2 : xs.length < sizeLine := by omega
        have hxl3 : xs.length + 1 < sizeLine := by omega
        simp [h, hxl2, hxl3]
        generalize hA : (m2 * 48271 + 1733) % 2147483629 = A
        have hA0 : 0 ≤ A := by rw [← hA]; exact Int.emod_nonneg _ (by decide)
        have hA1 : A < 2147483629 := by rw [← hA]; exact Int.emod_lt_of_pos _ (by decide)
        have hmul2 : CMulW m2 48271 ∨ CMul m2 48271 := .inl (cmul_of (a := 40) (b := 20) (by omega) (by decide) (by omega))
        have hmul3 : CMulW A 40014 ∨ CMul A 40014 := .inl (cmul_of (a := 40) (b := 20) (by omega) (by decide) (by omega))
        have hB0 : 0 ≤ (A * 40014 + 11) % 2147483563 := Int.emod_nonneg _ (by decide)
        have hdv : ∀ z : Int, CDivW z 43 := fun z => ⟨by decide, by decide⟩
        have hdv2 : ∀ z : Int, CDivW z 59 := fun z => ⟨by decide, by decide⟩
        have k2 := k1 [some (.nd .lst false (iL ns)), some (.nd .lst true (iL (xs ++ [A / 43, (A * 40014 + 11) % 2147483563 / 59]))), some (.at (.int m2)), some (.at (.int v)), some (.at (.int sz)), c, some (.at (.int A))] ⟨_, m2, _, _, _, _, rfl, fun d hd => ?_, ?_, n0, by omega⟩
        · simp [hmul2, hmul3, hdv, hdv2]
          simpa [iL] using k2
        · rcases List.mem_append.mp hd with hd | hd
          · exact hx d hd
          · simp at hd; rcases hd with rfl | rfl <;> omega
        · simp; omega
    · rintro δ ⟨xs, m, a, b, c, e, rfl, hx, hxl, hm, hm2⟩
      simp [size3]
      exact ⟨none, ⟨⟨ns, rfl, hl⟩, ⟨⟨xs, 0, m⟩, ⟨hx, Int.le_refl 0, hm, hm2⟩, rfl⟩, rfl⟩⟩
  obtain ⟨r, o, h⟩ := key
  obtain ⟨_, ⟨_, ⟨t, ht, rfl⟩, rfl⟩, _⟩ := id h
  exact ⟨t, ht, h⟩
end K07
set_option Elab.async false
set_option linter.all false
set_option maxRecDepth 100000
set_option autoImplicit false
namespace K07
open PySem L2 Z
abbrev Tx := List Nat
abbrev S := SX.S
/-! ## texts, cut -/
def cut (c : Nat) (t : Tx) : List Tx := TL.spl [c] 0 [] t
theorem spl_hit1 {c : Nat} {acc r : Tx} : TL.spl [c] 0 acc (c :: r) = acc :: TL.spl [c] 0 [] r := TL.spl_hit (TL.pre_self [c] r)
theorem spl_miss1 {c x : Nat} {acc r : Tx} (h : x ≠ c) : TL.spl [c] 0 acc (x :: r) = TL.spl [c] 0 (acc ++ [x]) r := TL.spl_miss (TL.pre_of_head [] r h)
theorem spl_app {c : Nat} : ∀ (a acc b : Tx), TL.spl [c] 0 acc (a ++ c :: b) = TL.spl [c] 0 acc a ++ TL.spl [c] 0 [] b
  | [], acc, b => by rw [List.nil_append, spl_hit1, TL.spl_nil]; rfl
  | x :: a, acc, b => by
    by_cases h : x = c
    · subst h; rw [List.cons_append, spl_hit1, spl_hit1, spl_app a [] b]; rfl
    · rw [List.cons_append, spl_miss1 h, spl_miss1 h, spl_app a _ b]
theorem cut_app {c : Nat} (a b : Tx) : cut c (a ++ c :: b) = cut c a ++ cut c b := spl_app a [] b
theorem cut_free {c : Nat} {a : Tx} (h : c ∉ a) : cut c a = [a] := by
  unfold cut; rw [TL.spl_last1 h, List.nil_append]
theorem cut_ne (c : Nat) (t : Tx) : cut c t ≠ [] := by
  unfold cut
  have : ∀ (t acc : Tx), TL.spl [c] 0 acc t ≠ [] := by
    intro t
    induction t with
    | nil => intro acc; rw [TL.spl_nil]; simp
    | cons x t ih =>
      intro acc
      by_cases h : x = c
      · subst h; rw [spl_hit1]; simp
      · rw [spl_miss1 h]; exact ih _
  exact this t []
theorem cut_mem {c : Nat} {t p : Tx} (hp : p ∈ cut c t) : c ∉ p ∧ p.length ≤ t.length := by
  have : ∀ (t acc : Tx), c ∉ acc → p ∈ TL.spl [c] 0 acc t → c ∉ p ∧ p.length ≤ acc.length + t.length := by
    intro t
    induction t with
    | nil => intro acc h0 h; rw [TL.spl_nil, List.mem_singleton] at h; subst h; exact ⟨h0, by simp⟩
    | cons x t ih =>
      intro acc h0 h
      by_cases e : x = c
      · subst e
        rw [spl_hit1] at h
        rcases List.mem_cons.mp h with rfl | h
        · exact ⟨h0, by simp⟩
        · have := ih [] (by simp) h
          exact ⟨this.1, by simp at this ⊢; omega⟩
      · rw [spl_miss1 e] at h
        have := ih _ (by simp [h0]; exact fun h => e h.symm) h
        exact ⟨this.1, by simp at this ⊢; omega⟩
  have h := this t [] (by simp) hp
  exact ⟨h.1, by simpa using h.2⟩
theorem cut_len (c : Nat) (t : Tx) : (cut c t).length ≤ t.length + 1 := by
  have : ∀ (t acc : Tx), (TL.spl [c] 0 acc t).length ≤ t.length + 1 := by
    intro t
    induction t with
    | nil => intro acc; rw [TL.spl_nil]; simp
    | cons x t ih =>
      intro acc
      by_cases e : x = c
      · subst e; rw [spl_hit1]; have := ih []; simp; omega
      · rw [spl_miss1 e]; have := ih (acc ++ [x]); simp; omega
  exact this t []
/-! words -/
def wd (t : Tx) : List Tx := (cut 32 t).filter fun p => decide (p ≠ [])
theorem wd_app (a b : Tx) : wd (a ++ 32 :: b) = wd a ++ wd b := by unfold wd; rw [cut_app, List.filter_append]
theorem wd_nil : wd [] = [] := rfl
theorem wd_one {p : Tx} (h : 32 ∉ p) (h0 : p ≠ []) : wd p = [p] := by unfold wd; rw [cut_free h]; simp [h0]
theorem wd_free {p : Tx} (h : 32 ∉ p) : wd p = if p = [] then [] else [p] := by
  by_cases h0 : p = []
  · subst h0; rfl
  · rw [if_neg h0, wd_one h h0]
def sp (n : Nat) : Tx := List.replicate n 32
theorem wd_spL : ∀ (n : Nat) (t : Tx), wd (sp n ++ t) = wd t
  | 0, t => rfl
  | n + 1, t => by
    show wd ([] ++ 32 :: (sp n ++ t)) = _
    rw [wd_app, wd_nil, List.nil_append, wd_spL n t]
theorem wd_spR : ∀ (n : Nat) (t : Tx), wd (t ++ sp n) = wd t
  | 0, t => by rw [show sp 0 = [] from rfl, List.append_nil]
  | n + 1, t => by
    show wd (t ++ 32 :: sp n) = _
    have := wd_spL n []
    rw [List.append_nil] at this
    rw [wd_app, this, wd_nil, List.append_nil]
theorem wd_join (n : Nat) : ∀ ps : List Tx, (∀ p ∈ ps, 32 ∉ p ∧ p ≠ []) → wd (TL.joinL (sp (n + 1)) ps) = ps
  | [], _ => rfl
  | [p], h => wd_one (h p List.mem_cons_self).1 (h p List.mem_cons_self).2
  | p :: q :: r, h => by
    show wd (p ++ (sp (n + 1) ++ TL.joinL (sp (n + 1)) (q :: r))) = _
    show wd (p ++ 32 :: (sp n ++ TL.joinL (sp (n + 1)) (q :: r))) = _
    rw [wd_app, wd_spL, wd_join n (q :: r) fun z hz => h z (List.mem_cons_of_mem _ hz), wd_one (h p List.mem_cons_self).1 (h p List.mem_cons_self).2]
    rfl
theorem wd_mem {t p : Tx} (h : p ∈ wd t) : p ≠ [] ∧ p.length ≤ t.length ∧ 32 ∉ p := by
  unfold wd at h
  obtain ⟨h1, h2⟩ := List.mem_filter.mp h
  exact ⟨by simpa using h2, (cut_mem h1).2, (cut_mem h1).1⟩
theorem wd_len (t : Tx) : (wd t).length ≤ t.length + 1 := Nat.le_trans (List.length_filter_le _ _) (cut_len 32 t)
/-! lines -/
def ln (t : Tx) : List Tx := if (cut 10 t).getLast? = some [] then (cut 10 t).dropLast else cut 10 t
def many : List Tx → Tx
  | [] => []
  | l :: ls => l ++ 10 :: many ls
theorem cut_many : ∀ (ls : List Tx) (e : Tx), (∀ l ∈ ls, 10 ∉ l) → 10 ∉ e → cut 10 (many ls ++ e) = ls ++ [e]
  | [], e, _, he => cut_free he
  | l :: ls, e, h, he => by
    show cut 10 ((l ++ 10 :: many ls) ++ e) = _
    rw [List.append_assoc, List.cons_append, cut_app, cut_free (h l List.mem_cons_self), cut_many ls e (fun z hz => h z (List.mem_cons_of_mem _ hz)) he]
    rfl
theorem ln_many {ls : List Tx} (h : ∀ l ∈ ls, 10 ∉ l) : ln (many ls) = ls := by
  have e := cut_many ls [] h (by simp)
  rw [List.append_nil] at e
  unfold ln
  rw [e]
  simp
theorem ln_last {ls : List Tx} {e : Tx} (h : ∀ l ∈ ls, 10 ∉ l) (he : 10 ∉ e) (h0 : e ≠ []) : ln (many ls ++ e) = ls ++ [e] := by
  unfold ln
  rw [cut_many ls e h he]
  simp [h0]
theorem ln_mem {t p : Tx} (h : p ∈ ln t) : 10 ∉ p ∧ p.length ≤ t.length := by
  unfold ln at h
  split at h
  · exact cut_mem (List.dropLast_subset _ h)
  · exact cut_mem h
theorem ln_len (t : Tx) : (ln t).length ≤ t.length + 1 := by
  unfold ln
  have := cut_len 10 t
  split
  · rw [List.length_dropLast]; omega
  · exact this
theorem join_many : ∀ (ls : List Tx) (e : Tx), TL.joinL [10] (ls ++ [e]) = many ls ++ e
  | [], e => rfl
  | [l], e => by simp [TL.joinL, many]
  | l :: k :: ls, e => by
    show l ++ ([10] ++ TL.joinL [10] ((k :: ls) ++ [e])) = _
    rw [join_many (k :: ls) e]
    simp [many]
theorem ln_join {ls : List Tx} (h : ∀ l ∈ ls, 10 ∉ l ∧ l ≠ []) : ln (TL.joinL [10] ls) = ls := by
  rcases List.eq_nil_or_concat ls with rfl | ⟨l, e, rfl⟩
  · rfl
  · rw [List.concat_eq_append] at *
    rw [join_many, ln_last (fun z hz => (h z (by simp [hz])).1) (h e (by simp)).1 (h e (by simp)).2]
theorem many_app : ∀ (a b : List Tx), many (a ++ b) = many a ++ many b
  | [], b => rfl
  | l :: a, b => by simp [many, many_app a b]
theorem joinE_many : ∀ ls : List Tx, TL.joinL [] (ls.map (· ++ [10])) = many ls
  | [] => rfl
  | [l] => by simp [TL.joinL, many]
  | l :: k :: ls => by
    show (l ++ [10]) ++ ([] ++ TL.joinL [] ((k :: ls).map (· ++ [10]))) = _
    rw [joinE_many (k :: ls)]
    simp [many]
/-! ## written integers -/
def figs (w : Tx) : Tx := if w.take 1 = [45] then w.drop 1 else w
def isD (c : Nat) : Bool := decide (48 ≤ c) && decide (c ≤ 57)
def isI (w : Tx) : Bool := decide (figs w ≠ []) && decide (w.length ≤ 60) && (figs w).all isD && (decide (w = [48]) || decide ((figs w).head? ≠ some 48))
def intV (w : Tx) : Int := (intText? (S w)).getD 0
theorem take1 {w : Tx} (h : w.take 1 = [45]) : w = 45 :: w.drop 1 := by
  cases w with
  | nil => simp at h
  | cons x w => simp at h; subst h; rfl
theorem isI_len {w : Tx} (h : isI w = true) : w.length ≤ 60 := by
  unfold isI at h
  simp only [Bool.and_eq_true, decide_eq_true_eq] at h
  exact h.1.1.2
theorem intV_ok {w : Tx} (h : isI w = true) : intText? (S w) = some (intV w) := by
  have hl := isI_len h
  unfold isI at h
  simp only [Bool.and_eq_true, decide_eq_true_eq, List.all_eq_true] at h
  obtain ⟨⟨⟨h1, _⟩, h2⟩, _⟩ := h
  have hL : (S w).length ≤ 4300 := by rw [SX.S_len]; omega
  have key : ∃ n, intText? (S w) = some n := by
    unfold figs at h1 h2
    by_cases e : w.take 1 = [45]
    · rw [if_pos e] at h1 h2
      exact ⟨_, PySem.intText_neg (x := S w) (cs := w.drop 1) (take1 e) (fun c hc => by have := h2 c hc; simp [isD] at this; exact this) h1 hL⟩
    · rw [if_neg e] at h1 h2
      exact ⟨_, PySem.intText_digits (x := S w) (fun c hc => by have := h2 c hc; simp [isD] at this; exact this) h1 hL⟩
  obtain ⟨n, e⟩ := key
  unfold intV
  rw [e]; rfl
/-- the text of an integer -/
def intT (i : Int) : Tx := (toString i).toList.map Char.toNat
theorem intS (i : Int) : Str.ofString (toString i) = S (intT i) := TL.ext_tl (TL.tl_ofString _)
theorem intT_nat (n : Nat) : intT (n : Int) = TL.numL n := by
  have := TL.tl_num n
  rw [TL.tl_ofString] at this
  exact this
theorem intT_neg (n : Nat) (h : 0 < n) : intT (-(n : Int)) = 45 :: TL.numL n := by
  obtain ⟨m, rfl⟩ : ∃ m, n = m + 1 := ⟨n - 1, by omega⟩
  have e : (-((m + 1 : Nat) : Int)) = Int.negSucc m := rfl
  unfold intT
  rw [e]
  have : toString (Int.negSucc m) = "-" ++ Nat.repr (m + 1) := rfl
  rw [this, String.toList_append, List.map_append]
  have h2 := TL.tl_num (m + 1)
  rw [TL.tl_ofString] at h2
  rw [← h2]
  rfl
theorem numL_head {n : Nat} (h : (TL.numL n).head? = some 48) : n = 0 := by
  induction n using Nat.strongRecOn with
  | _ n ih =>
    by_cases h10 : n < 10
    · rw [TL.numL_lt h10] at h; simp at h; omega
    · rw [TL.numL_step (by omega)] at h
      have hne := TL.numL_ne (n / 10)
      cases hq : TL.numL (n / 10) with
      | nil => exact absurd hq hne
      | cons a r =>
        rw [hq] at h
        have := ih (n / 10) (by omega) (by rw [hq]; simpa using h)
        omega
theorem intT_ok {i : Int} {k : Nat} (hk : k ≤ 59) (h0 : 0 < k) (h : i.natAbs < 10 ^ k) : isI (intT i) = true ∧ intV (intT i) = i ∧ 32 ∉ intT i ∧ 10 ∉ intT i ∧ intT i ≠ [] ∧ (intT i).length ≤ k + 1 := by
  rcases Int.lt_or_le i 0 with hi | hi
  · obtain ⟨n, e⟩ : ∃ n : Nat, i = -(n : Int) := ⟨i.natAbs, by omega⟩
    have hn : 0 < n := by omega
    subst e
    have hl := TL.numL_len h0 (n := n) (k := k) (by simpa using h)
    have hd := TL.numL_digits n
    have hf : figs (intT (-(n : Int))) = TL.numL n := by rw [intT_neg n hn]; rfl
    have hT : (S (intT (-(n : Int)))).length ≤ 4300 := by rw [SX.S_len, intT_neg n hn]; simp; omega
    have hv := PySem.intText_neg (x := S (intT (-(n : Int)))) (cs := TL.numL n) (intT_neg n hn) hd (TL.numL_ne n) hT
    refine ⟨?_, ?_, ?_, ?_, ?_, ?_⟩
    · unfold isI
      rw [hf]
      simp only [Bool.and_eq_true, decide_eq_true_eq, List.all_eq_true, Bool.or_eq_true]
      refine ⟨⟨⟨TL.numL_ne n, by rw [intT_neg n hn]; simp; omega⟩, fun c hc => by have := hd c hc; simp [isD]; exact this⟩, .inr fun e => ?_⟩
      have := numL_head e
      omega
    · unfold intV; rw [hv, TL.numL_val]; rfl
    · rw [intT_neg n hn]; simp; exact TL.numL_free (.inl (by decide))
    · rw [intT_neg n hn]; simp; exact TL.numL_free (.inl (by decide))
    · rw [intT_neg n hn]; simp
    · rw [intT_neg n hn]; simp; omega
  · obtain ⟨n, e⟩ : ∃ n : Nat, i = (n : Int) := ⟨i.natAbs, by omega⟩
    subst e
    have hl := TL.numL_len h0 (n := n) (k := k) (by simpa using h)
    have hd := TL.numL_digits n
    have hne := TL.numL_ne n
    have hf : figs (TL.numL n) = TL.numL n := by
      unfold figs
      rw [if_neg]
      intro e
      cases hq : TL.numL n with
      | nil => exact hne hq
      | cons a r =>
        rw [hq] at e hd
        simp at e
        have := hd a List.mem_cons_self
        omega
    have hT : (S (TL.numL n)).length ≤ 4300 := by rw [SX.S_len]; omega
    have hv := PySem.intText_digits (x := S (TL.numL n)) hd hne hT
    rw [intT_nat]
    refine ⟨?_, ?_, TL.numL_free (.inl (by decide)), TL.numL_free (.inl (by decide)), hne, by omega⟩
    · unfold isI
      rw [hf]
      simp only [Bool.and_eq_true, decide_eq_true_eq, List.all_eq_true, Bool.or_eq_true]
      refine ⟨⟨⟨hne, by omega⟩, fun c hc => by have := hd c hc; simp [isD]; exact this⟩, ?_⟩
      by_cases e : n = 0
      · left; subst e; rw [TL.numL_lt (by decide)]
      · right; exact fun h => e (numL_head h)
    · unfold intV; rw [hv]; show ((NumText.digitsVal (TL.numL n) : Nat) : Int) = _; rw [TL.numL_val]
/-! ## scripts -/
structure St where
  dd : Bool
  nm : Tx
  lo : Int
  hi : Int
  ns : List Int
deriving DecidableEq
def tDo : Tx := [100, 111]
def tAsk : Tx := [97, 115, 107]
inductive LR where
  | bad (w : Str)
  | skip
  | stp (s : St)
def passes (ws : List Tx) : Bool := match ws with
  | [] => true
  | w :: _ => decide (w.head? = some 35)
/-- the step of a line's words -/
def stepR (ws : List Tx) : Str ⊕ St :=
  if ((ws.getD 0 [] ≠ tDo ∧ ws.getD 0 [] ≠ tAsk) ∨ ws.length < 4) ∨ (ws.getD 0 [] = tAsk ∧ 4 < ws.length) then .inl "words"
  else if (ws.drop 2).all isI = false then .inl "integer"
  else .inr ⟨decide (ws.getD 0 [] ≠ tAsk), ws.getD 1 [], intV (ws.getD 2 []), intV (ws.getD 3 []), (ws.drop 4).map intV⟩
def lineR (n : Nat) (l : Tx) : LR :=
  if 2000 < l.length ∨ 400 ≤ n then .bad "limit"
  else if passes (wd l) = true then .skip
  else match stepR (wd l) with
    | .inl w => .bad w
    | .inr s => .stp s
def rd : Nat → List Tx → (Nat × Str) ⊕ List St
  | _, [] => .inr []
  | n, l :: ls => match lineR n l with
    | .bad w => .inl (n + 1, w)
    | .skip => rd (n + 1) ls
    | .stp s => match rd (n + 1) ls with
      | .inl e => .inl e
      | .inr ss => .inr (s :: ss)
/-! the texts of steps -/
def wordsOf (s : St) : List Tx := [if s.dd = true then tDo else tAsk, s.nm, intT s.lo, intT s.hi] ++ (if s.dd = true then s.ns.map intT else [])
structure StOk (s : St) : Prop where
  nm : 32 ∉ s.nm ∧ 10 ∉ s.nm ∧ s.nm ≠ [] ∧ s.nm.length ≤ 8
  lo : s.lo.natAbs < 10 ^ 10
  hi : s.hi.natAbs < 10 ^ 10
  ns : ∀ i ∈ s.ns, i.natAbs < 10 ^ 10
  few : s.ns.length ≤ 3
  ask : s.dd = false → s.ns = []
def lineOf (s : St) : Tx := TL.joinL [32] (wordsOf s)
theorem words_ok {s : St} (h : StOk s) : ∀ p ∈ wordsOf s, (32 ∉ p ∧ p ≠ []) ∧ 10 ∉ p ∧ p.length ≤ 11 := by
  have hI : ∀ i : Int, i.natAbs < 10 ^ 10 → (32 ∉ intT i ∧ intT i ≠ []) ∧ 10 ∉ intT i ∧ (intT i).length ≤ 11 := fun i hi => by
    have := intT_ok (k := 10) (by decide) (by decide) hi
    exact ⟨⟨this.2.2.1, this.2.2.2.2.1⟩, this.2.2.2.1, this.2.2.2.2.2⟩
  intro p hp
  unfold wordsOf at hp
  rcases List.mem_append.mp hp with hp | hp
  · simp only [List.mem_cons, List.not_mem_nil, or_false] at hp
    rcases hp with rfl | rfl | rfl | rfl
    · split <;> decide
    · exact ⟨⟨h.nm.1, h.nm.2.2.1⟩, h.nm.2.1, by have := h.nm.2.2.2; omega⟩
    · exact hI _ h.lo
    · exact hI _ h.hi
  · split at hp
    · obtain ⟨i, hi, rfl⟩ := List.mem_map.mp hp
      exact hI _ (h.ns i hi)
    · simp at hp
theorem stepR_words {s : St} (h : StOk s) : stepR (wordsOf s) = .inr s := by
  have hI : ∀ i : Int, i.natAbs < 10 ^ 10 → isI (intT i) = true ∧ intV (intT i) = i := fun i hi => by
    have := intT_ok (k := 10) (by decide) (by decide) hi
    exact ⟨this.1, this.2.1⟩
  obtain ⟨d, nm, lo, hi, ns⟩ := s
  have hns : ∀ l : List Int, (∀ i ∈ l, i.natAbs < 10 ^ 10) → (l.map intT).all isI = true ∧ (l.map intT).map intV = l := by
    intro l hl
    refine ⟨?_, ?_⟩
    · rw [List.all_eq_true]
      intro p hp
      obtain ⟨i, hi, rfl⟩ := List.mem_map.mp hp
      exact (hI i (hl i hi)).1
    · rw [List.map_map]
      conv => rhs; rw [← List.map_id l]
      exact List.map_congr_left fun i hi => (hI i (hl i hi)).2
  have hlo := hI lo h.lo
  have hhi := hI hi h.hi
  cases d with
  | true =>
    have := hns ns h.ns
    unfold stepR wordsOf
    simp only [if_true, List.cons_append, List.nil_append]
    rw [if_neg, if_neg]
    · simp only [List.getD_cons_zero, List.getD_cons_succ, List.drop_succ_cons, List.drop_zero, this.2, hlo.2, hhi.2]
      rfl
    · simp only [List.drop_succ_cons, List.drop_zero, List.all_cons, hlo.1, hhi.1, this.1]; decide
    · simp [tDo, tAsk]
  | false =>
    obtain rfl : ns = [] := h.ask rfl
    unfold stepR wordsOf
    simp only [Bool.false_eq_true, if_false, List.append_nil]
    rw [if_neg, if_neg]
    · simp only [List.getD_cons_zero, List.getD_cons_succ, List.drop_succ_cons, List.drop_zero, hlo.2, hhi.2]
      rfl
    · simp only [List.drop_succ_cons, List.drop_zero, List.all_cons, hlo.1, hhi.1]; decide
    · simp [tDo, tAsk]
theorem passes_words (s : St) : passes (wordsOf s) = false := by
  obtain ⟨d, nm, lo, hi, ns⟩ := s
  cases d <;> rfl
theorem join_mem {s : Nat} {S p : Tx} : ∀ {ps : List Tx}, (∀ q ∈ ps, s ∉ q) → s ∉ S → s ∉ TL.joinL S ps
  | [], _, _ => by simp [TL.joinL]
  | [q], h, _ => h q List.mem_cons_self
  | q :: r :: ps, h, hS => by
    show s ∉ q ++ (S ++ TL.joinL S (r :: ps))
    have := join_mem (p := p) (ps := r :: ps) (fun z hz => h z (List.mem_cons_of_mem _ hz)) hS
    have := h q List.mem_cons_self
    simp_all
theorem join_len {S : Tx} {k : Nat} : ∀ {ps : List Tx}, (∀ q ∈ ps, q.length ≤ k) → (TL.joinL S ps).length ≤ ps.length * (k + S.length)
  | [], _ => by simp [TL.joinL]
  | [q], h => by
    have := h q List.mem_cons_self
    show q.length ≤ 1 * (k + S.length)
    omega
  | q :: r :: ps, h => by
    show (q ++ (S ++ TL.joinL S (r :: ps))).length ≤ _
    have h1 := join_len (S := S) (k := k) (ps := r :: ps) (fun z hz => h z (List.mem_cons_of_mem _ hz))
    have h2 := h q List.mem_cons_self
    rw [List.length_append, List.length_append, List.length_cons (a := q), Nat.succ_mul]
    omega
theorem lineOf_ok {s : St} (h : StOk s) : 10 ∉ lineOf s ∧ lineOf s ≠ [] ∧ (lineOf s).length ≤ 84 ∧ wd (lineOf s) = wordsOf s := by
  have hw := words_ok h
  have hl : (wordsOf s).length ≤ 7 := by
    unfold wordsOf
    have := h.few
    split <;> simp <;> omega
  have e := wd_join 0 (wordsOf s) fun p hp => (hw p hp).1
  refine ⟨join_mem (p := []) (fun q hq => (hw q hq).2.1) (by decide), ?_, ?_, e⟩
  · intro e0
    have e0 : TL.joinL (sp (0 + 1)) (wordsOf s) = [] := e0
    rw [e0] at e
    have : wordsOf s ≠ [] := by unfold wordsOf; simp
    exact this e.symm
  · have := join_len (S := [32]) (k := 11) (ps := wordsOf s) fun q hq => (hw q hq).2.2
    unfold lineOf
    simp at this
    omega
/-- a line that tells a step, however loosely -/
structure Loose (s : St) (l : Tx) : Prop where
  ws : wd l = wordsOf s
  nl : 10 ∉ l
  len : l.length ≤ 2000
theorem lineR_loose {s : St} {l : Tx} {n : Nat} (h : StOk s) (hl : Loose s l) (hn : n < 400) : lineR n l = .stp s := by
  unfold lineR
  rw [if_neg (by have := hl.len; omega), hl.ws, passes_words, if_neg (by simp), stepR_words h]
def Blank (l : Tx) : Prop := passes (wd l) = true ∧ 10 ∉ l ∧ l.length ≤ 2000
theorem lineR_blank {l : Tx} {n : Nat} (hl : Blank l) (hn : n < 400) : lineR n l = .skip := by
  unfold lineR
  rw [if_neg (by have := hl.2.2; omega), if_pos hl.1]
/-- lines, some of which tell the steps, others nothing -/
inductive Tell : List Tx → List St → Prop where
  | nil : Tell [] []
  | blank {l : Tx} {ls : List Tx} {ss : List St} : Blank l → Tell ls ss → Tell (l :: ls) ss
  | stp {l : Tx} {ls : List Tx} {s : St} {ss : List St} : StOk s → Loose s l → Tell ls ss → Tell (l :: ls) (s :: ss)
theorem rd_tell : ∀ {ls : List Tx} {ss : List St} (n : Nat), Tell ls ss → n + ls.length ≤ 400 → rd n ls = .inr ss
  | [], _, n, .nil, _ => rfl
  | l :: ls, ss, n, .blank hb h, hn => by
    simp only [List.length_cons] at hn
    simp only [rd, lineR_blank hb (show n < 400 by omega)]
    exact rd_tell (n + 1) h (by omega)
  | l :: ls, s :: ss, n, .stp ho hl h, hn => by
    simp only [List.length_cons] at hn
    simp only [rd, lineR_loose ho hl (show n < 400 by omega), rd_tell (n + 1) h (by omega)]
theorem tell_app {ls ks : List Tx} {ss us : List St} (h : Tell ls ss) (g : Tell ks us) : Tell (ls ++ ks) (ss ++ us) := by
  induction h with
  | nil => exact g
  | blank hb _ ih => exact .blank hb ih
  | stp ho hl _ ih => exact .stp ho hl ih
theorem tell_lines : ∀ {ss : List St}, (∀ s ∈ ss, StOk s) → Tell (ss.map lineOf) ss
  | [], _ => .nil
  | s :: ss, h => .stp (h s List.mem_cons_self) ⟨(lineOf_ok (h s List.mem_cons_self)).2.2.2, (lineOf_ok (h s List.mem_cons_self)).1, by have := (lineOf_ok (h s List.mem_cons_self)).2.2.1; omega⟩ (tell_lines fun z hz => h z (List.mem_cons_of_mem _ hz))
theorem tell_nl {ls : List Tx} {ss : List St} (h : Tell ls ss) : ∀ l ∈ ls, 10 ∉ l := by
  induction h with
  | nil => simp
  | blank hb _ ih => intro l hl; exact (List.mem_cons.mp hl).elim (fun e => e ▸ hb.2.1) (ih l)
  | stp ho hb _ ih => intro l hl; exact (List.mem_cons.mp hl).elim (fun e => e ▸ hb.nl) (ih l)
end K07
set_option Elab.async false
set_option linter.all false
set_option maxRecDepth 100000
set_option autoImplicit false
set_option maxHeartbeats 4000000
namespace K07
open PySem L2 Z
abbrev tD (l : Tx) : D := .at (.str (S l))
abbrev tL (ls : List Tx) : List D := ls.map tD
theorem fr_tL (ls : List Tx) : frozL (tL ls) = true := frozL_at fun d hd => by
  obtain ⟨p, _, rfl⟩ := List.mem_map.mp hd
  rfl
@[simp] theorem fr_tL' (ls : List Tx) : frozL (tL ls) = true := fr_tL ls
theorem ofS_eq (s : String) : Str.ofString s = S (s.toList.map Char.toNat) := TL.ext_tl (TL.tl_ofString s)
theorem S_eq {a b : Tx} : (S a = S b) = (a = b) := propext ⟨fun h => SX.S_inj h, fun h => by rw [h]⟩
theorem split_nl (t : Tx) : Txt.split (S t) "\n" = (cut 10 t).map S := by
  rw [show (("\n" : Str)) = S [10] from ofS_eq "\n"]
  exact SX.split_S (by simp) (by decide)
theorem split_sp (t : Tx) : Txt.split (S t) " " = (cut 32 t).map S := by
  rw [show ((" " : Str)) = S [32] from ofS_eq " "]
  exact SX.split_S (by simp) (by decide)
theorem empty_S : ("" : Str) = S [] := ofS_eq ""
@[simp] theorem S_ne {a : Tx} : (S a = ("" : Str)) = (a = []) := by rw [empty_S, S_eq]
theorem atI_last {α : Type} {l : List α} {x : α} (h : l.getLast? = some x) : atI l (-1) = some x := by
  rcases List.eq_nil_or_concat l with rfl | ⟨l, y, rfl⟩
  · simp at h
  · rw [List.concat_eq_append] at *
    simp at h
    subst h
    unfold atI
    simp [ixN]
    rw [if_pos (by omega)]
    show (l ++ [y])[(-1 + ((l.length : Int) + 1)).toNat]? = some y
    rw [show (-1 + ((l.length : Int) + 1)).toNat = l.length by omega]
    simp
@[simp] theorem S_cps (a : Tx) : (S a).cps.toList = a := rfl
theorem S1_eq {c : Nat} {s : String} : ((⟨#[c]⟩ : Str) = Str.ofString s) = ([c] = s.toList.map Char.toNat) := by
  rw [ofS_eq, show (⟨#[c]⟩ : Str) = S [c] from rfl, S_eq]
def tlD (n : Nat) (l : Tx) : D := .nd .tup false [.at (.int ((n : Int) + 1)), tD l, .nd .lst false (tL (if passes (wd l) = true then [] else wd l))]
abbrev BIG : Nat := 200000
def ct_tl : Ct := fun ds r o => ∃ t, ds = [tD t] ∧ t.length ≤ BIG ∧ r = .nd .lst true ((ln t).mapIdx tlD) ∧ o = none
theorem sizeB : 1000000 + 2 ≤ sizeLine := by decide
theorem sL_S (ls : List Tx) : sL (ls.map S) = tL ls := by simp [tL, sL]
theorem frz_tL : ∀ ls : List Tx, frzL (tL ls) = tL ls
  | [] => rfl
  | l :: ls => by show (tD l).frz :: frzL (tL ls) = _; rw [frz_tL ls]; rfl
@[simp] theorem frz_tL2 (ls : List Tx) : (D.nd .lst true (tL ls)).frz = .nd .lst false (tL ls) := by show D.nd .lst false (frzL (tL ls)) = _; rw [frz_tL]
@[simp] theorem frz_nil : (D.nd .lst true []).frz = .nd .lst false [] := rfl
theorem wd_D (l : Tx) : (cut 32 l).filterMap (fun p => if p = [] then none else some (tD p)) = tL (wd l) := by
  unfold wd
  induction cut 32 l with
  | nil => rfl
  | cons p ps ih => by_cases h : p = [] <;> simp [h, ih]
theorem getLast_map {α β : Type} {f : α → β} {l : List α} : (l.map f).getLast? = l.getLast?.map f := by simp
theorem words_cmp {Γ : Nat → Ct} {l : Tx} (hl : l.length ≤ BIG) {δ0 : Z.Env} {body : D → Z.Env → (Option D → Z.Env → Prop) → Prop} {Q : List D → Z.Env → Prop} (hb : ∀ p ∈ cut 32 l, ∀ k : Option D → Z.Env → Prop, k (if p = [] then none else some (tD p)) δ0 → body (tD p) δ0 k) (h : Q (tL (wd l)) δ0) : forC body (tL (cut 32 l)) δ0 [] Q := by
  have := cut_len 32 l
  have := sizeB
  simp only [BIG] at hl
  refine forC_fmL tD (fun p => if p = [] then none else some (tD p)) (cut 32 l) Q hb (by omega) ?_
  rw [wd_D]; exact h
theorem l_tl {Γ : Nat → Ct} : ∀ ds r o, ct_tl ds r o → ds.length = 1 ∧ wpSs Γ btold_lines (startD 7 ds) (retW none r o) := by
  rintro ds r o ⟨t, rfl, hl, rfl, rfl⟩
  refine ⟨rfl, ?_⟩
  have hB := sizeB
  simp only [BIG] at hl
  have hz : (S t).length + 2 ≤ sizeLine := by rw [SX.S_len]; omega
  have hlast : ∃ p, (cut 10 t).getLast? = some p := by
    cases h : (cut 10 t).getLast? with
    | none => exact absurd (List.getLast?_eq_none_iff.mp h) (cut_ne 10 t)
    | some p => exact ⟨p, rfl⟩
  obtain ⟨p, hp⟩ := hlast
  have hp2 : atI (tL (cut 10 t)) (-1) = some (tD p) := atI_last (by rw [getLast_map, hp]; rfl)
  have hp3 : (tL (cut 10 t))[(tL (cut 10 t)).length - 1]? = some (tD p) := by
    rw [← List.getLast?_eq_getElem?, getLast_map, hp]; rfl
  have hdl : (tL (cut 10 t)).dropLast = tL (cut 10 t).dropLast := by simp [tL, List.map_dropLast]
  unfold btold_lines
  refine cutS (fun δ => δ = [some (tD t), some (.nd .lst true (tL (cut 10 t))), none, none, none, none, none]) (by repeat' (first | exact True.intro | (refine pt_spl ?_ ?_) | (refine pt_ninS ?_ ?_) | (refine pt_mulS ?_ ?_) | (refine pt_crp ?_) | (refine pt_ch ?_ ?_ ?_) | (refine pt_kg ?_) | (refine pt_dsp ?_ ?_ ?_ ?_) | (exact pt_mvf) | (refine pt_rplD ?_ ?_ ?_ ?_) | (refine pt_E' ?_) | (exact fun h => nomatch h) | constructor)) ?_ ?_
  · simp [wpSs, Z.wpS, wpE, wpP, wpPT, wpT, wpEs, wpO, wpOT, wpIt, splW, hz, split_nl]
    decide
  rintro _ rfl
  refine cutS (fun δ => δ = [some (tD t), some (.nd .lst true (tL (ln t))), none, none, none, none, none]) (by repeat' (first | exact True.intro | (refine pt_spl ?_ ?_) | (refine pt_ninS ?_ ?_) | (refine pt_mulS ?_ ?_) | (refine pt_crp ?_) | (refine pt_ch ?_ ?_ ?_) | (refine pt_kg ?_) | (refine pt_dsp ?_ ?_ ?_ ?_) | (exact pt_mvf) | (refine pt_rplD ?_ ?_ ?_ ?_) | (refine pt_E' ?_) | (exact fun h => nomatch h) | constructor)) ?_ ?_
  · simp only [wpSs, Z.wpS, wpE, wpP, wpPT, wpT, wpEs, wpO, wpOT, wpIt]
    simp only [List.getElem?_cons_succ, List.getElem?_cons_zero, Option.some.injEq, exists_eq_left', q_b_idx, q_u_neg, q_neg_i, q_idx_l, hp2, q_b_eq, q_eq_s, q_tr_b]
    have hpe : (decide (S p = ("" : Str)) = true) ↔ p = [] := by rw [decide_eq_true_eq, S_ne]
    by_cases h : p = []
    · subst h
      have e : ln t = (cut 10 t).dropLast := by unfold ln; rw [if_pos hp]
      have hp4 : (cut 10 t)[(cut 10 t).length - 1]? = some [] := by rw [← List.getLast?_eq_getElem?]; exact hp
      rw [e, ← hdl]
      simp [hp4, wpSs, Z.wpS, wpE, wpP, wpPT, wpT, wpEs, wpO, wpOT, wpIt]
    · have e : ln t = cut 10 t := by unfold ln; rw [if_neg (by rw [hp]; simpa using h)]
      rw [e]
      simp [h, wpSs, Z.wpS, wpE, wpP, wpPT, wpT, wpEs, wpO, wpOT, wpIt]
  rintro _ rfl
  have hll := ln_len t
  have hlm := fun l (h : l ∈ ln t) => (ln_mem h).2
  generalize ln t = ls at *
  refine cutS (fun δ => δ = [some (tD t), some (.nd .lst true (tL ls)), some (.nd .lst true []), none, none, none, none]) (by repeat' (first | exact True.intro | (refine pt_spl ?_ ?_) | (refine pt_ninS ?_ ?_) | (refine pt_mulS ?_ ?_) | (refine pt_crp ?_) | (refine pt_ch ?_ ?_ ?_) | (refine pt_kg ?_) | (refine pt_dsp ?_ ?_ ?_ ?_) | (exact pt_mvf) | (refine pt_rplD ?_ ?_ ?_ ?_) | (refine pt_E' ?_) | (exact fun h => nomatch h) | constructor)) (by simp [wpSs, Z.wpS, wpE, wpP, wpPT, wpT, wpEs, wpO, wpOT, wpIt]) ?_
  rintro _ rfl
  refine cutS (fun δ => ∃ a b c, δ = [some (tD t), none, some (.nd .lst true (ls.mapIdx tlD)), a, b, c, none]) (by repeat' (first | exact True.intro | (refine pt_spl ?_ ?_) | (refine pt_ninS ?_ ?_) | (refine pt_mulS ?_ ?_) | (refine pt_crp ?_) | (refine pt_ch ?_ ?_ ?_) | (refine pt_kg ?_) | (refine pt_dsp ?_ ?_ ?_ ?_) | (exact pt_mvf) | (refine pt_rplD ?_ ?_ ?_ ?_) | (refine pt_E' ?_) | (exact fun h => nomatch h) | constructor)) ?_ ?_
  · simp only [wpSs, Z.wpS, wpE, wpP, wpPT, wpT, wpEs, wpO, wpOT, wpIt]
    simp only [List.getElem?_cons_succ, List.getElem?_cons_zero, Option.some.injEq, exists_eq_left', q_seq_l, fr_tL', true_and, List.set_cons_succ, List.set_cons_zero]
    refine forW_ix (fun i δ => ∃ a b c, δ = [some (tD t), none, some (.nd .lst true ((ls.mapIdx tlD).take i)), a, b, c, none]) _ _ 0 _ ⟨_, _, _, rfl⟩ ?_ ?_
    · rintro i d δ hd ⟨a, b, c, rfl⟩ k k1 _ _ _ _
      rw [List.getElem?_mapIdx, List.getElem?_map] at hd
      obtain ⟨x, e1, rfl⟩ := Option.map_eq_some_iff.mp hd
      obtain ⟨l, e2, rfl⟩ := Option.map_eq_some_iff.mp e1
      have hi := (List.getElem?_eq_some_iff.mp e2).1
      have hL := hlm l (List.mem_of_getElem? e2)
      have e3 : (ls.mapIdx tlD)[i]? = some (tlD i l) := by rw [List.getElem?_mapIdx, e2]; rfl
      have hz2 : (S l).length + 2 ≤ sizeLine := by rw [SX.S_len]; omega
      rw [take_snoc e3] at k1
      rw [Nat.zero_add]
      have hxl : ((ls.mapIdx tlD).take i).length < sizeLine := by rw [List.length_take]; omega
      generalize (ls.mapIdx tlD).take i = xs at k1 hxl ⊢
      simp [wpSs, Z.wpS, wpE, wpP, wpPT, wpT, wpEs, wpO, wpOT, wpIt, splW, hz2, split_sp, -List.map_map]
      refine ⟨by decide, frozL_sL _, ?_⟩
      rw [sL_S]
      refine words_cmp (Γ := Γ) (l := l) (δ0 := [some (tD t), none, some (.nd .lst true xs), some (.at (.int i)), some (tD l), c, none]) (by simp only [BIG]; omega) (fun p hp k hk => ?_) ?_
      · by_cases h : p = []
        · subst h
          simp at hk ⊢
          exact hk
        · simp [h] at hk ⊢
          exact hk
      · have k2 := k1 [some (tD t), none, some (.nd .lst true (xs ++ [tlD i l])), some (.at (.int i)), some (tD l), some (.nd .lst false (tL (if passes (wd l) = true then [] else wd l))), none] ⟨_, _, _, rfl⟩
        have hz3 := size3
        have hne := fun p (h : p ∈ wd l) => wd_mem h
        cases hw : wd l with
        | nil =>
          rw [hw] at k2
          simp [hxl, hz3]
          simpa [tlD, passes, hw] using k2
        | cons w ws =>
          rw [hw] at k2 hne
          obtain ⟨h0, hwl, _⟩ := hne w List.mem_cons_self
          cases w with
          | nil => exact absurd rfl h0
          | cons ch w =>
            have hzw : (S (ch :: w)).length ≤ sizeLine := by rw [SX.S_len]; omega
            simp [hzw, S1_eq, hxl, hz3]
            have ef : (D.nd .lst true (tD (ch :: w) :: List.map tD ws)).frz = .nd .lst false (tL ((ch :: w) :: ws)) := frz_tL2 ((ch :: w) :: ws)
            rw [ef]
            by_cases h : ch = 35
            · rw [if_pos h]
              simpa [tlD, passes, hw, h] using k2
            · rw [if_neg h]
              simpa [tlD, passes, hw, h] using k2
    · rintro δ ⟨a, b, c, rfl⟩
      exact ⟨_, rfl, a, b, c, by rw [List.take_of_length_le (by simp)]⟩
  rintro _ ⟨a, b, c, rfl⟩
  simp [wpSs, Z.wpS, wpE, wpP, wpPT, wpT, wpEs, wpO, wpOT, wpIt]
/-! ## need_short, the written integers -/
def shortOk (n : Int) (l : Tx) (m : Int) : Prop := ¬ (2000 < l.length ∨ m < n)
instance (n : Int) (l : Tx) (m : Int) : Decidable (shortOk n l m) := inferInstanceAs (Decidable (¬ _))
def ct_ns3 : Ct := fun ds r o => ∃ n l m, ds = [.at (.int n), tD l, .at (.int m)] ∧ l.length ≤ BIG ∧ if shortOk n l m then r = .at .non ∧ o = none else r = .nd .tup false [.at (.int n), .at (.str "limit")] ∧ o = some (.at .non)
def ct_ns : Ct := fun ds r o => ∃ n l, ds = [.at (.int n), tD l] ∧ l.length ≤ BIG ∧ if shortOk n l 400 then r = .at .non ∧ o = none else r = .nd .tup false [.at (.int n), .at (.str "limit")] ∧ o = some (.at .non)
theorem l_ns {Γ : Nat → Ct} : ∀ ds r o, ct_ns3 ds r o → ds.length = 3 ∧ wpSs Γ bneed_short (startD 3 ds) (retR "BadLine" "line" "word" r o) := by
  rintro ds r o ⟨n, l, m, rfl, hl, h⟩
  refine ⟨rfl, ?_⟩
  have hB := sizeB
  simp only [BIG] at hl
  have hz : (S l).length ≤ sizeLine := by rw [SX.S_len]; omega
  have hlen : ((S l).length : Int) = (l.length : Int) := by rw [SX.S_len]
  simp [bneed_short, wpSs, Z.wpS, wpE, wpP, wpPT, wpT, wpEs, wpO, wpOT, wpIt, hz]
  by_cases h0 : shortOk n l m
  · rw [if_pos h0] at h
    obtain ⟨rfl, rfl⟩ := h
    simp only [shortOk, not_or] at h0
    have h1 : ¬ (2000 : Int) < ((S l).length : Int) := by rw [hlen]; omega
    simp [h1, h0.2, retR]
  · rw [if_neg h0] at h
    obtain ⟨rfl, rfl⟩ := h
    simp only [shortOk, Classical.not_not] at h0
    by_cases h1 : (2000 : Int) < ((S l).length : Int)
    · simp [h1, retR]
      exact ⟨_, _, ⟨rfl, rfl⟩, rfl, rfl⟩
    · have h2 : m < n := by rw [hlen] at h1; omega
      simp [h1, h2, retR]
      exact ⟨_, _, ⟨rfl, rfl⟩, rfl, rfl⟩
def ct_wi : Ct := fun ds r o => ∃ w, ds = [tD w] ∧ w.length ≤ BIG ∧ r = (if isI w = true then .at (.int (intV w)) else .at .non) ∧ o = none
def ct_li : Ct := fun ds r o => ∃ w, ds = [tD w] ∧ w.length ≤ BIG ∧ r = .at (.bl (isI w)) ∧ o = none
theorem cut_to1 (w : Tx) : cutS (S w) none (some 1) = S (w.take 1) := by rw [C8.cutS_slice]; exact SX.slice_to (by decide)
theorem cut_from1 (w : Tx) : cutS (S w) (some 1) none = S (w.drop 1) := by rw [C8.cutS_slice]; exact SX.slice_from (by decide)
theorem dash_S : ("-" : Str) = S [45] := ofS_eq "-"
theorem fig_mem (c : Nat) : (c ∈ ("0123456789" : Str).cps.toList) ↔ isD c = true := by
  rw [show ("0123456789" : Str) = S [48, 49, 50, 51, 52, 53, 54, 55, 56, 57] from ofS_eq "0123456789"]
  show c ∈ [48, 49, 50, 51, 52, 53, 54, 55, 56, 57] ↔ _
  unfold isD
  simp only [List.mem_cons, List.not_mem_nil, or_false, Bool.and_eq_true, decide_eq_true_eq]
  omega
def signD (c : Nat) : D := .at (.str ⟨#[c]⟩)
theorem sign_cmp {f : Tx} (hl : f.length ≤ BIG) {δ0 : Z.Env} {body : D → Z.Env → (Option D → Z.Env → Prop) → Prop} {Q : List D → Z.Env → Prop} (hb : ∀ p ∈ f, ∀ k : Option D → Z.Env → Prop, k (if isD p = true then none else some (signD p)) δ0 → body (signD p) δ0 k) (h : ∀ xs, xs.isEmpty = f.all isD → xs.length ≤ f.length → Q xs δ0) : forC body (f.map signD) δ0 [] Q := by
  have := sizeB
  simp only [BIG] at hl
  refine forC_fmL signD (fun p => if isD p = true then none else some (signD p)) f Q hb (by omega) (h _ ?_ (List.length_filterMap_le _ _))
  clear hb h hl
  induction f with
  | nil => rfl
  | cons p f ih => by_cases h : isD p = true <;> simp [h, ih]
end K07
set_option Elab.async false
set_option linter.all false
set_option maxRecDepth 100000
set_option autoImplicit false
set_option maxHeartbeats 4000000
namespace K07
open PySem L2 Z
@[simp] theorem S_len' (a : Tx) : (S a).length = a.length := SX.S_len a
theorem fig_mem' (c : Nat) : (c ∈ ("0123456789" : Str).cps) ↔ isD c = true := by rw [← Array.mem_toList_iff]; exact fig_mem c
theorem figs_len (w : Tx) : (figs w).length ≤ w.length := by
  unfold figs
  split
  · rw [List.length_drop]; omega
  · exact Nat.le_refl _
theorem l_wi {Γ : Nat → Ct} : ∀ ds r o, ct_wi ds r o → ds.length = 1 ∧ wpSs Γ bwritten_integer (startD 3 ds) (retW none r o) := by
  rintro ds r o ⟨w, rfl, hl, rfl, rfl⟩
  refine ⟨rfl, ?_⟩
  have hB := sizeB
  have hl0 := hl
  simp only [BIG] at hl
  have hz : w.length ≤ sizeLine := by omega
  have hfl := figs_len w
  have hzf : (figs w).length ≤ sizeLine := by omega
  unfold bwritten_integer
  refine cutS (fun δ => δ = [some (tD w), some (tD (figs w)), none]) (by repeat' (first | exact True.intro | (refine pt_spl ?_ ?_) | (refine pt_ninS ?_ ?_) | (refine pt_mulS ?_ ?_) | (refine pt_crp ?_) | (refine pt_ch ?_ ?_ ?_) | (refine pt_kg ?_) | (refine pt_dsp ?_ ?_ ?_ ?_) | (exact pt_mvf) | (refine pt_rplD ?_ ?_ ?_ ?_) | (refine pt_E' ?_) | (exact fun h => nomatch h) | constructor)) ?_ ?_
  · simp only [wpSs, Z.wpS, wpE, wpP, wpPT, wpT, wpEs, wpO, wpOT, wpIt]
    unfold figs
    by_cases h : w.take 1 = [45]
    · simp [wpSs, Z.wpS, wpE, wpP, wpPT, wpT, wpEs, wpO, wpOT, wpIt, hz, cut_to1, cut_from1, dash_S, S_eq, h]
    · simp [wpSs, Z.wpS, wpE, wpP, wpPT, wpT, wpEs, wpO, wpOT, wpIt, hz, cut_to1, cut_from1, dash_S, S_eq, h]
  rintro _ rfl
  have hW : isI w = (decide (figs w ≠ []) && decide (w.length ≤ 60) && (figs w).all isD && (decide (w = [48]) || decide ((figs w).head? ≠ some 48))) := rfl
  have hV := intV_ok (w := w)
  refine cutR (fun δ => δ = [some (tD w), some (tD (figs w)), none] ∧ figs w ≠ [] ∧ w.length ≤ 60 ∧ (figs w).all isD = true) (by repeat' (first | exact True.intro | (refine pt_spl ?_ ?_) | (refine pt_ninS ?_ ?_) | (refine pt_mulS ?_ ?_) | (refine pt_crp ?_) | (refine pt_ch ?_ ?_ ?_) | (refine pt_kg ?_) | (refine pt_dsp ?_ ?_ ?_ ?_) | (exact pt_mvf) | (refine pt_rplD ?_ ?_ ?_ ?_) | (refine pt_E' ?_) | (exact fun h => nomatch h) | constructor)) ?_ ?_
  · have fin : (figs w ≠ [] ∧ w.length ≤ 60 ∧ (figs w).all isD = true) ∨ isI w = false := by
      rw [hW]
      by_cases h1 : figs w ≠ [] <;> by_cases h2 : w.length ≤ 60 <;> by_cases h3 : (figs w).all isD = true <;> simp [h1, h2, h3]
    have hno : isI w = false → retW none (if isI w = true then D.at (.int (intV w)) else .at .non) none (.rt (.at .non) [some (tD w), some (tD (figs w)), none]) := fun h => by simp [h]
    simp only [wpSs, Z.wpS, wpE, wpP, wpPT, wpT, wpEs, wpO, wpOT, wpIt]
    by_cases h1 : figs w = []
    · have hI : isI w = false := by rw [hW]; simp [h1]
      simp [wpSs, Z.wpS, wpE, wpP, wpPT, wpT, wpEs, wpO, wpOT, wpIt, h1, hI]
    · have h1' : ¬ (figs w).length = 0 := fun h => h1 (List.eq_nil_of_length_eq_zero h)
      by_cases h2 : 60 < w.length
      · have hI : isI w = false := by rw [hW]; simp [show ¬ w.length ≤ 60 by omega]
        have h2' : (60 : Int) < (w.length : Int) := by omega
        simp [wpSs, Z.wpS, wpE, wpP, wpPT, wpT, wpEs, wpO, wpOT, wpIt, h1', h2', hI, hz, hzf]
      · have h2' : ¬ (60 : Int) < (w.length : Int) := by omega
        simp [wpSs, Z.wpS, wpE, wpP, wpPT, wpT, wpEs, wpO, wpOT, wpIt, h1', h2', hz, hzf]
        refine sign_cmp (f := figs w) (δ0 := [some (tD w), some (tD (figs w)), none]) (by simp only [BIG]; omega) (fun p hp k hk => ?_) (fun xs hx hxl => ?_)
        · by_cases hd : isD p = true
          · have := (fig_mem' p).mpr hd
            simp [hd] at hk
            simp [ninS, evNinS, signD, wpSs, Z.wpS, wpE, wpP, wpPT, wpT, wpEs, wpO, wpOT, wpIt, this]
            exact hk
          · have : ¬ p ∈ ("0123456789" : Str).cps := fun h => hd ((fig_mem' p).mp h)
            simp [hd] at hk
            simp [ninS, evNinS, signD, wpSs, Z.wpS, wpE, wpP, wpPT, wpT, wpEs, wpO, wpOT, wpIt, this]
            exact hk
        · by_cases h3 : (figs w).all isD = true
          · rw [h3] at hx
            obtain rfl : xs = [] := by simpa using hx
            simp
            exact ⟨h1, by omega, by simpa using h3⟩
          · have hI : isI w = false := by rw [hW]; simp [h3]
            simp only [Bool.not_eq_true] at h3
            rw [h3] at hx
            have hne : xs ≠ [] := fun e => by rw [e] at hx; simp at hx
            simp [hne, hI]
  rintro _ ⟨rfl, h1, h2, h3⟩
  generalize figs w = f at *
  cases f with
  | nil => exact absurd rfl h1
  | cons c f =>
    have hI : isI w = (decide (w = [48]) || decide (c ≠ 48)) := by rw [hW]; simp [h2, h3]
    have hzz : (("0" : Str)) = S [48] := ofS_eq "0"
    have hz2 : f.length + 1 ≤ sizeLine := hzf
    have h640 : w.length ≤ 640 := by omega
    simp [wpSs, Z.wpS, wpE, wpP, wpPT, wpT, wpEs, wpO, wpOT, wpIt, S1_eq, hzz, S_eq, hz2]
    by_cases hc : c = 48
    · subst hc
      by_cases hw : w = [48]
      · have hI2 : isI w = true := by rw [hI]; simp [hw]
        simp [hw, hI2, hV hI2, h640]
        have := hV hI2
        rw [hw] at this
        rw [hw] at hI2
        simp [this, hI2]
      · have hI2 : isI w = false := by rw [hI]; simp [hw]
        simp [hw, hI2]
    · have hI2 : isI w = true := by rw [hI]; simp [hc]
      simp [hc, hI2, hV hI2, h640]
theorem l_li {Γ : Nat → Ct} : ∀ ds r o, ct_li ds r o → ds.length = 1 ∧ wpSs Γ b_law_integer (startD 3 ds) (retW none r o) := by
  rintro ds r o ⟨w, rfl, hl, rfl, rfl⟩
  refine ⟨rfl, ?_⟩
  have hB := sizeB
  have hl0 := hl
  simp only [BIG] at hl
  have hz : w.length ≤ sizeLine := by omega
  have hfl := figs_len w
  have hzf : (figs w).length ≤ sizeLine := by omega
  unfold b_law_integer
  refine cutS (fun δ => δ = [some (tD w), some (tD (figs w)), none]) (by repeat' (first | exact True.intro | (refine pt_spl ?_ ?_) | (refine pt_ninS ?_ ?_) | (refine pt_mulS ?_ ?_) | (refine pt_crp ?_) | (refine pt_ch ?_ ?_ ?_) | (refine pt_kg ?_) | (refine pt_dsp ?_ ?_ ?_ ?_) | (exact pt_mvf) | (refine pt_rplD ?_ ?_ ?_ ?_) | (refine pt_E' ?_) | (exact fun h => nomatch h) | constructor)) ?_ ?_
  · simp only [wpSs, Z.wpS, wpE, wpP, wpPT, wpT, wpEs, wpO, wpOT, wpIt]
    unfold figs
    by_cases h : w.take 1 = [45]
    · simp [wpSs, Z.wpS, wpE, wpP, wpPT, wpT, wpEs, wpO, wpOT, wpIt, hz, cut_to1, cut_from1, dash_S, S_eq, h]
    · simp [wpSs, Z.wpS, wpE, wpP, wpPT, wpT, wpEs, wpO, wpOT, wpIt, hz, cut_to1, cut_from1, dash_S, S_eq, h]
  rintro _ rfl
  have hW : isI w = (decide (figs w ≠ []) && decide (w.length ≤ 60) && (figs w).all isD && (decide (w = [48]) || decide ((figs w).head? ≠ some 48))) := rfl
  refine cutR (fun δ => δ = [some (tD w), some (tD (figs w)), none] ∧ figs w ≠ [] ∧ w.length ≤ 60 ∧ (figs w).all isD = true) (by repeat' (first | exact True.intro | (refine pt_spl ?_ ?_) | (refine pt_ninS ?_ ?_) | (refine pt_mulS ?_ ?_) | (refine pt_crp ?_) | (refine pt_ch ?_ ?_ ?_) | (refine pt_kg ?_) | (refine pt_dsp ?_ ?_ ?_ ?_) | (exact pt_mvf) | (refine pt_rplD ?_ ?_ ?_ ?_) | (refine pt_E' ?_) | (exact fun h => nomatch h) | constructor)) ?_ ?_
  · have hno : isI w = false → retW none (.at (.bl (isI w))) none (.rt (.at (.bl false)) [some (tD w), some (tD (figs w)), none]) := fun h => by simp [h]
    simp only [wpSs, Z.wpS, wpE, wpP, wpPT, wpT, wpEs, wpO, wpOT, wpIt]
    by_cases h2 : 60 < w.length
    · have hI : isI w = false := by rw [hW]; simp [show ¬ w.length ≤ 60 by omega]
      have h2' : (60 : Int) < (w.length : Int) := by omega
      simp [wpSs, Z.wpS, wpE, wpP, wpPT, wpT, wpEs, wpO, wpOT, wpIt, h2', hI, hz, hzf]
    · have h2' : ¬ (60 : Int) < (w.length : Int) := by omega
      by_cases h1 : figs w = []
      · have hI : isI w = false := by rw [hW]; simp [h1]
        simp [wpSs, Z.wpS, wpE, wpP, wpPT, wpT, wpEs, wpO, wpOT, wpIt, h1, hI, h2', hz]
      · have h1' : ¬ (figs w).length = 0 := fun h => h1 (List.eq_nil_of_length_eq_zero h)
        simp [wpSs, Z.wpS, wpE, wpP, wpPT, wpT, wpEs, wpO, wpOT, wpIt, h1', h2', hz, hzf, h1]
        refine sign_cmp (f := figs w) (δ0 := [some (tD w), some (tD (figs w)), none]) (by simp only [BIG]; omega) (fun p hp k hk => ?_) (fun xs hx hxl => ?_)
        · by_cases hd : isD p = true
          · have := (fig_mem' p).mpr hd
            simp [hd] at hk
            simp [ninS, evNinS, signD, wpSs, Z.wpS, wpE, wpP, wpPT, wpT, wpEs, wpO, wpOT, wpIt, this]
            exact hk
          · have : ¬ p ∈ ("0123456789" : Str).cps := fun h => hd ((fig_mem' p).mp h)
            simp [hd] at hk
            simp [ninS, evNinS, signD, wpSs, Z.wpS, wpE, wpP, wpPT, wpT, wpEs, wpO, wpOT, wpIt, this]
            exact hk
        · by_cases h3 : (figs w).all isD = true
          · rw [h3] at hx
            obtain rfl : xs = [] := by simpa using hx
            simp
            exact ⟨by omega, by simpa using h3⟩
          · have hI : isI w = false := by rw [hW]; simp [h3]
            simp only [Bool.not_eq_true] at h3
            rw [h3] at hx
            have hne : 0 < xs.length := by
              cases xs with
              | nil => simp at hx
              | cons => simp
            simp [hne, hI]
  rintro _ ⟨rfl, h1, h2, h3⟩
  generalize figs w = f at *
  cases f with
  | nil => exact absurd rfl h1
  | cons c f =>
    have hI : isI w = (decide (w = [48]) || decide (c ≠ 48)) := by rw [hW]; simp [h2, h3]
    have hzz : (("0" : Str)) = S [48] := ofS_eq "0"
    have hz2 : f.length + 1 ≤ sizeLine := hzf
    simp [wpSs, Z.wpS, wpE, wpP, wpPT, wpT, wpEs, wpO, wpOT, wpIt, S1_eq, hzz, S_eq, hz2]
    rw [hI]
    by_cases hw : w = [48]
    · simp [hw]
    · simp [hw, hz2]
end K07
set_option Elab.async false
set_option linter.all false
set_option maxRecDepth 100000
set_option autoImplicit false
set_option maxHeartbeats 4000000
namespace K07
open PySem L2 Z
/-! ## read_step, read_script -/
def stD (s : St) : D :=
  if s.dd = true then .nd .tup false [.at (.str "do"), tD s.nm, .nd .tup false [.at (.int s.lo), .at (.int s.hi)], .nd .tup false (iL s.ns)]
  else .nd .tup false [.at (.str "ask"), tD s.nm, .nd .tup false [.at (.int s.lo), .at (.int s.hi)]]
theorem fr_st (s : St) : (stD s).froz = true := by unfold stD; split <;> simp
abbrev stL (ss : List St) : List D := ss.map stD
theorem fr_stL (ss : List St) : frozL (stL ss) = true := frozL_at fun d hd => by
  obtain ⟨p, _, rfl⟩ := List.mem_map.mp hd
  exact fr_st p
def ct_rs : Ct := fun ds r o => ∃ n ws, ds = [.at (.int n), .nd .lst false (tL ws)] ∧ ws ≠ [] ∧ (∀ w ∈ ws, w.length ≤ BIG) ∧ ws.length ≤ BIG + 1 ∧ match stepR ws with
  | .inl w => r = .nd .tup false [.at (.int n), .at (.str w)] ∧ o = some (.at .non)
  | .inr s => r = stD s ∧ o = none
def wiV (w : Tx) : V := if isI w = true then .int (intV w) else .non
def wiD (w : Tx) : D := .at (wiV w)
theorem wiD_eq (w : Tx) : (if isI w = true then D.at (.int (intV w)) else .at .non) = wiD w := by unfold wiD wiV; split <;> rfl
theorem ofS_do : ("do" : Str) = S tDo := ofS_eq "do"
theorem ofS_ask : ("ask" : Str) = S tAsk := ofS_eq "ask"
theorem wi_all : ∀ {ws : List Tx}, ws.all isI = true → ws.map wiD = iL (ws.map intV)
  | [], _ => rfl
  | w :: ws, h => by
    simp only [List.all_cons, Bool.and_eq_true] at h
    have := wi_all h.2
    simp only [List.map_cons, wiD, wiV, h.1, if_true, this]
theorem wi_ats : ∀ ws : List Tx, atsOf (ws.map wiD) = some (ws.map wiV)
  | [] => rfl
  | w :: ws => by simp [wiD, wi_ats ws]
theorem wi_flat (ws : List Tx) : (ws.map wiV).all flatV = true := by
  rw [List.all_eq_true]
  intro v hv
  obtain ⟨w, _, rfl⟩ := List.mem_map.mp hv
  unfold wiV
  split <;> rfl
theorem wi_in : ∀ ws : List Tx, inV .non (ws.map wiV) = !ws.all isI
  | [] => rfl
  | w :: ws => by
    have := wi_in ws
    unfold inV at *
    simp only [List.map_cons, List.any_cons, List.all_cons, this]
    unfold wiV
    cases isI w <;> rfl
theorem fr_wi (ws : List Tx) : frozL (ws.map wiD) = true := frozL_at fun d hd => by
  obtain ⟨p, _, rfl⟩ := List.mem_map.mp hd
  rfl
theorem frz_wi (ws : List Tx) : frzL (ws.map wiD) = ws.map wiD := by
  induction ws with
  | nil => rfl
  | cons w ws ih => show (wiD w).frz :: frzL (ws.map wiD) = _; rw [ih]; rfl
theorem inV_do {w : Tx} : inV (.str (S w)) [.str (S tDo), .str (S tAsk)] = (decide (w = tDo) || decide (w = tAsk)) := by
  rw [inV_s2]
  simp only [S_eq]
  congr 1 <;> exact decide_eq_decide.mpr eq_comm
@[simp] theorem q_notin {v : V} {o : Bool} {ds : List D} {k : D → Prop} : evIn true (.at v) (.nd .tup o ds) k = ∃ vs, atsOf ds = some vs ∧ flatV v = true ∧ vs.all flatV = true ∧ k (.at (.bl (!inV v vs))) := rfl
@[simp] theorem q_isinL {v : V} {o : Bool} {ds : List D} {k : D → Prop} : evIn false (.at v) (.nd .lst o ds) k = ∃ vs, atsOf ds = some vs ∧ flatV v = true ∧ vs.all flatV = true ∧ k (.at (.bl (inV v vs))) := rfl
@[simp] theorem q_b_notin : ev2 .notin = evIn true := rfl
@[simp] theorem q_b_isin : ev2 .isin = evIn false := rfl
theorem slc_from2 {ws : List Tx} : (List.drop (HT.sIx ws.length 0 (some 2)) (tL ws)).take (HT.sIx ws.length ws.length none - HT.sIx ws.length 0 (some 2)) = tL (ws.drop 2) := by
  rw [show HT.sIx ws.length ws.length none = ws.length from rfl, show HT.sIx ws.length 0 (some 2) = min 2 ws.length from HT.sIx_nat _ _ 2]
  rw [List.take_of_length_le (by simp), ← List.map_drop]
  congr 1
  by_cases h : 2 ≤ ws.length
  · rw [Nat.min_eq_left h]
  · rw [Nat.min_eq_right (by omega), List.drop_of_length_le (Nat.le_refl _), List.drop_of_length_le (by omega)]
theorem frzL_iL : ∀ xs : List Int, frzL (iL xs) = iL xs
  | [] => rfl
  | x :: xs => by show (D.at (.int x)).frz :: frzL (iL xs) = _; rw [frzL_iL xs]; rfl
theorem sl_to2 {xs : List D} (h : 2 ≤ xs.length) : (xs.drop (HT.sIx xs.length 0 none)).take (HT.sIx xs.length xs.length (some 2) - HT.sIx xs.length 0 none) = xs.take 2 := by
  rw [show HT.sIx xs.length 0 none = 0 from rfl, show HT.sIx xs.length xs.length (some 2) = min 2 xs.length from HT.sIx_nat _ _ 2, Nat.min_eq_left h]; rfl
theorem sl_from2 {xs : List D} (h : 2 ≤ xs.length) : (xs.drop (HT.sIx xs.length 0 (some 2))).take (HT.sIx xs.length xs.length none - HT.sIx xs.length 0 (some 2)) = xs.drop 2 := by
  rw [show HT.sIx xs.length xs.length none = xs.length from rfl, show HT.sIx xs.length 0 (some 2) = min 2 xs.length from HT.sIx_nat _ _ 2, Nat.min_eq_left h, List.take_of_length_le (by simp)]
theorem l_rs {Γ : Nat → Ct} (hΓ : Γ 2 = ct_wi) : ∀ ds r o, ct_rs ds r o → ds.length = 2 ∧ wpSs Γ bread_step (startD 4 ds) (retR "BadLine" "line" "word" r o) := by
  rintro ds r o ⟨n, ws, rfl, hne, hw, hl, hr⟩
  refine ⟨rfl, ?_⟩
  have hB := sizeB
  have h2 := size2
  have h3 := size3
  simp only [BIG] at hl
  obtain ⟨w0, rest, rfl⟩ : ∃ w0 rest, ws = w0 :: rest := by
    cases ws with
    | nil => exact absurd rfl hne
    | cons a b => exact ⟨a, b, rfl⟩
  unfold stepR at hr
  rw [List.getD_cons_zero] at hr
  unfold bread_step
  refine cutR (fun δ => δ = [some (.at (.int n)), some (.nd .lst false (tL (w0 :: rest))), none, none] ∧ (w0 = tDo ∨ w0 = tAsk) ∧ 4 ≤ (w0 :: rest).length ∧ (w0 = tAsk → (w0 :: rest).length = 4)) (by repeat' (first | exact True.intro | (refine pt_spl ?_ ?_) | (refine pt_ninS ?_ ?_) | (refine pt_mulS ?_ ?_) | (refine pt_crp ?_) | (refine pt_ch ?_ ?_ ?_) | (refine pt_kg ?_) | (refine pt_dsp ?_ ?_ ?_ ?_) | (exact pt_mvf) | (refine pt_rplD ?_ ?_ ?_ ?_) | (refine pt_E' ?_) | (exact fun h => nomatch h) | constructor)) ?_ ?_
  · by_cases hb : ((w0 ≠ tDo ∧ w0 ≠ tAsk) ∨ (w0 :: rest).length < 4) ∨ (w0 = tAsk ∧ 4 < (w0 :: rest).length)
    · rw [if_pos hb] at hr
      obtain ⟨rfl, rfl⟩ := hr
      have fin : ∀ δ, retR "BadLine" "line" "word" (.nd .tup false [.at (.int n), .at (.str "words")]) (some (.at .non)) (.xc "BadLine" [("word", .str "words"), ("line", .int n)] δ) := fun δ => ⟨rfl, by simp, _, _, rfl, rfl⟩
      have hb2 : ¬ ((w0 = tDo ∨ w0 = tAsk) ∧ 3 ≤ rest.length ∧ (w0 = tAsk → rest.length = 3)) := by
        simp only [List.length_cons] at hb
        rintro ⟨a, b, c⟩
        rcases hb with (⟨x, y⟩ | x) | ⟨x, y⟩
        · exact a.elim x y
        · omega
        · have := c x; omega
      simp [wpSs, Z.wpS, wpE, wpP, wpPT, wpT, wpEs, wpO, wpOT, wpIt, ofS_do, ofS_ask, h2, inV_do, fin]
      intro a b
      have hw3 : 3 ≤ rest.length := by omega
      have hor : w0 = tDo ∨ w0 = tAsk := a.imp Eq.symm Eq.symm
      by_cases c3 : w0 = tAsk
      · rw [if_pos c3]
        intro c
        exact absurd ⟨hor, hw3, fun _ => by omega⟩ hb2
      · rw [if_neg c3]
        exact absurd ⟨hor, hw3, fun h => absurd h c3⟩ hb2
    · simp only [List.length_cons] at hb
      have c1 : tDo = w0 ∨ tAsk = w0 := Classical.byContradiction fun h => hb (.inl (.inl ⟨fun e => h (.inl e.symm), fun e => h (.inr e.symm)⟩))
      have c2 : ¬ ((rest.length : Int) + 1 < 4) := fun h => hb (.inl (.inr (by omega)))
      have hor : w0 = tDo ∨ w0 = tAsk := c1.imp Eq.symm Eq.symm
      have c4 : w0 = tAsk → rest.length = 3 := fun h => Classical.byContradiction fun h2 => hb (.inr ⟨h, by omega⟩)
      simp [wpSs, Z.wpS, wpE, wpP, wpPT, wpT, wpEs, wpO, wpOT, wpIt, ofS_do, ofS_ask, h2, inV_do, c1, c2]
      by_cases c3 : w0 = tAsk
      · have := c4 c3
        rw [if_pos c3, if_neg (by omega)]
        exact ⟨hor, by omega, c4⟩
      · rw [if_neg c3]
        exact ⟨hor, by omega, c4⟩
  rintro _ ⟨rfl, hk, h4, hk4⟩
  simp only [List.length_cons] at h4 hk4 hl
  have hr1 : ¬ (((w0 ≠ tDo ∧ w0 ≠ tAsk) ∨ (w0 :: rest).length < 4) ∨ (w0 = tAsk ∧ 4 < (w0 :: rest).length)) := by
    simp only [List.length_cons]
    rintro ((⟨x, y⟩ | x) | ⟨x, y⟩)
    · exact hk.elim x y
    · omega
    · have := hk4 x; omega
  rw [if_neg hr1] at hr
  obtain ⟨w1, w2, w3, more, rfl⟩ : ∃ w1 w2 w3 more, rest = w1 :: w2 :: w3 :: more := by
    match rest, h4 with
    | [], h => simp at h
    | [_], h => simp at h
    | [_, _], h => simp at h
    | a :: b :: c :: d, _ => exact ⟨a, b, c, d, rfl⟩
  have hd2 : (w0 :: w1 :: w2 :: w3 :: more).drop 2 = w2 :: w3 :: more := rfl
  rw [hd2] at hr
  refine cutS (fun δ => δ = [some (.at (.int n)), some (.nd .lst false (tL (w0 :: w1 :: w2 :: w3 :: more))), some (.nd .lst true ((w2 :: w3 :: more).map wiD)), none]) (by repeat' (first | exact True.intro | (refine pt_spl ?_ ?_) | (refine pt_ninS ?_ ?_) | (refine pt_mulS ?_ ?_) | (refine pt_crp ?_) | (refine pt_ch ?_ ?_ ?_) | (refine pt_kg ?_) | (refine pt_dsp ?_ ?_ ?_ ?_) | (exact pt_mvf) | (refine pt_rplD ?_ ?_ ?_ ?_) | (refine pt_E' ?_) | (exact fun h => nomatch h) | constructor)) ?_ ?_
  · have e := slc_from2 (ws := w0 :: w1 :: w2 :: w3 :: more)
    rw [hd2] at e
    simp only [wpSs, Z.wpS, wpE, wpP, wpPT, wpT, wpEs, wpO, wpOT, wpIt, hΓ]
    refine ⟨_, rfl, fr_tL _, ?_⟩
    refine ⟨2, rfl, fr_tL _, ?_⟩
    rw [List.length_map, e]
    refine ⟨fr_tL _, ?_⟩
    refine forC_mapL tD wiD (w2 :: w3 :: more) _ (fun w hwm k hk => ?_) (by simp at hl ⊢; omega) ?_
    · have hbw := hw w (List.mem_cons_of_mem _ (List.mem_cons_of_mem _ hwm))
      simp [wpSs, Z.wpS, wpE, wpP, wpPT, wpT, wpEs, wpO, wpOT, wpIt]
      exact ⟨_, ⟨none, w, rfl, hbw, (wiD_eq w).symm, rfl⟩, by simpa using hk⟩
    · simp
  rintro _ rfl
  have hwi := wi_in (w2 :: w3 :: more)
  have hats := wi_ats (w2 :: w3 :: more)
  have hflat := wi_flat (w2 :: w3 :: more)
  have hfw := fr_wi (w2 :: w3 :: more)
  have hzw := frz_wi (w2 :: w3 :: more)
  have hfrz : (D.nd .lst true ((w2 :: w3 :: more).map wiD)).frz = .nd .lst false ((w2 :: w3 :: more).map wiD) := by
    show D.nd .lst false (frzL _) = _
    rw [hzw]
  by_cases hall : (w2 :: w3 :: more).all isI = true
  · rw [if_neg (by rw [hall]; simp)] at hr
    obtain ⟨rfl, rfl⟩ := hr
    refine cutS (fun δ => δ = [some (.at (.int n)), some (.nd .lst false (tL (w0 :: w1 :: w2 :: w3 :: more))), some (.nd .lst false (iL ((w2 :: w3 :: more).map intV))), none]) (by repeat' (first | exact True.intro | (refine pt_spl ?_ ?_) | (refine pt_ninS ?_ ?_) | (refine pt_mulS ?_ ?_) | (refine pt_crp ?_) | (refine pt_ch ?_ ?_ ?_) | (refine pt_kg ?_) | (refine pt_dsp ?_ ?_ ?_ ?_) | (exact pt_mvf) | (refine pt_rplD ?_ ?_ ?_ ?_) | (refine pt_E' ?_) | (exact fun h => nomatch h) | constructor)) ?_ ?_
    · simp only [wpSs, Z.wpS, wpE, wpP, wpPT, wpT, wpEs, wpO, wpOT, wpIt]
      refine ⟨_, rfl, ?_⟩
      rw [hfrz]
      refine ⟨_, hats, rfl, hflat, rfl, ?_⟩
      rw [hwi, hall]
      simp [wpSs, Z.wpS, wpE, wpP, wpPT, wpT, wpEs, wpO, wpOT, wpIt]
      have := wi_all hall
      simpa using this
    rintro _ rfl
    have hf : frozL (iL ((w2 :: w3 :: more).map intV)) = true := frozL_iL _
    rcases hk with rfl | rfl
    · have hz : (D.nd .lst false (iL ((w2 :: w3 :: more).map intV))).frz = .nd .lst false (iL ((w2 :: w3 :: more).map intV)) := by
        show D.nd .lst false (frzL _) = _
        rw [frzL_iL]
      have hl2 : 2 ≤ (iL ((w2 :: w3 :: more).map intV)).length := by simp
      have e1 := sl_to2 hl2
      have e2 := sl_from2 hl2
      have e3 : (iL ((w2 :: w3 :: more).map intV)).take 2 = [.at (.int (intV w2)), .at (.int (intV w3))] := rfl
      have e4 : (iL ((w2 :: w3 :: more).map intV)).drop 2 = iL (more.map intV) := rfl
      have hm : frozL (iL (more.map intV)) = true := frozL_iL _
      generalize iL ((w2 :: w3 :: more).map intV) = xs at *
      have h4 : 4 ≤ sizeLine := by omega
      simp [wpSs, Z.wpS, wpE, wpP, wpPT, wpT, wpEs, wpO, wpOT, wpIt, ofS_do, ofS_ask, h2, h3, S_eq, show tDo ≠ tAsk by decide, hz, hf, e1, e2, e3, e4, h4, hm, -List.map_map]
      exact ⟨rfl, by simp [stD, ofS_do]⟩
    · obtain rfl : more = [] := by
        have := hk4 rfl
        simp at this
        exact this
      simp [wpSs, Z.wpS, wpE, wpP, wpPT, wpT, wpEs, wpO, wpOT, wpIt, ofS_do, ofS_ask, h2, h3, S_eq]
      exact ⟨rfl, by simp [stD, ofS_ask]⟩
  · have hall' : (w2 :: w3 :: more).all isI = false := by simpa using hall
    rw [if_pos hall'] at hr
    obtain ⟨rfl, rfl⟩ := hr
    refine cutR (fun _ => False) (by repeat' (first | exact True.intro | (refine pt_spl ?_ ?_) | (refine pt_ninS ?_ ?_) | (refine pt_mulS ?_ ?_) | (refine pt_crp ?_) | (refine pt_ch ?_ ?_ ?_) | (refine pt_kg ?_) | (refine pt_dsp ?_ ?_ ?_ ?_) | (exact pt_mvf) | (refine pt_rplD ?_ ?_ ?_ ?_) | (refine pt_E' ?_) | (exact fun h => nomatch h) | constructor)) ?_ (fun _ h => h.elim)
    · simp only [wpSs, Z.wpS, wpE, wpP, wpPT, wpT, wpEs, wpO, wpOT, wpIt]
      refine ⟨_, rfl, ?_⟩
      rw [hfrz]
      refine ⟨_, hats, rfl, hflat, rfl, ?_⟩
      rw [hwi, hall']
      simp [wpSs, Z.wpS, wpE, wpP, wpPT, wpT, wpEs, wpO, wpOT, wpIt, retR]
      exact ⟨_, _, ⟨rfl, rfl⟩, rfl, rfl⟩
end K07
set_option Elab.async false
set_option linter.all false
set_option maxRecDepth 100000
set_option autoImplicit false
set_option maxHeartbeats 4000000
namespace K07
open PySem L2 Z
def itemsD : Nat → List Tx → List D
  | _, [] => []
  | n, l :: ls => tlD n l :: itemsD (n + 1) ls
theorem items_idx : ∀ (ls : List Tx) (n : Nat), ls.mapIdx (fun i l => tlD (n + i) l) = itemsD n ls
  | [], n => rfl
  | l :: ls, n => by
    rw [List.mapIdx_cons, itemsD, ← items_idx ls (n + 1)]
    congr 1
    congr 1
    funext i l
    rw [show n + (i + 1) = n + 1 + i by omega]
theorem items_0 (ls : List Tx) : ls.mapIdx tlD = itemsD 0 ls := by
  rw [← items_idx]
  congr 1
  funext i l
  rw [Nat.zero_add]
theorem fr_tlD (n : Nat) (l : Tx) : (tlD n l).froz = true := by
  show (true && (true && ((D.nd .lst false (tL _)).froz && true))) = true
  rw [show ∀ ls : List Tx, (D.nd .lst false (tL ls)).froz = frozL (tL ls) from fun _ => rfl, fr_tL]; rfl
theorem fr_items (ls : List Tx) : frozL (ls.mapIdx tlD) = true := frozL_at fun d hd => by
  obtain ⟨i, h, rfl⟩ := List.mem_mapIdx.mp hd
  exact fr_tlD i _
def errD (m : Nat) (w : Str) : Out → Prop := fun o => ∃ δ, o = .xc "BadLine" [("word", .str w), ("line", .int m)] δ
theorem rd_loop {Γ : Nat → Ct} (h1 : Γ 1 = ct_ns) (h4 : Γ 4 = ct_rs) (t : Tx) : ∀ (ls : List Tx) (n : Nat) (acc : List St) (a b c : Option D) (Q : Out → Prop), (∀ l ∈ ls, l.length ≤ BIG) → acc.length + ls.length ≤ BIG + 1 →
    (match rd n ls with
      | .inl (m, w) => ∀ δ, Q (.xc "BadLine" [("word", .str w), ("line", .int m)] δ)
      | .inr ss => ∀ a b c, Q (.nx [some (tD t), some (.nd .lst true (stL (acc ++ ss))), a, b, c])) →
    forW (fun d δ q => wpG (.tup [(.name 2), (.name 3), (.name 4)]) d δ fun δ1 => wpSs Γ (frB (hdS (tlS bread_script))) δ1 q) (itemsD n ls) [some (tD t), some (.nd .lst true (stL acc)), a, b, c] Q
  | [], n, acc, a, b, c, Q, _, _, h => by
    simp only [rd, List.append_nil] at h
    exact h a b c
  | l :: ls, n, acc, a, b, c, Q, hb, hl, h => by
    have hB := sizeB
    have hbl := hb l List.mem_cons_self
    have ih := rd_loop h1 h4 t ls (n + 1)
    have hbs : ∀ l ∈ ls, l.length ≤ BIG := fun z hz => hb z (List.mem_cons_of_mem _ hz)
    simp only [List.length_cons] at hl
    simp only [itemsD, forW]
    show wpG (.tup [(.name 2), (.name 3), (.name 4)]) (.nd .tup false [.at (.int ((n : Int) + 1)), tD l, .nd .lst false (tL (if passes (wd l) = true then [] else wd l))]) _ _
    simp only [q_g_t, q_g_cons, q_g_n, q_g_nil, List.length_cons, List.length_nil, true_and]
    simp only [List.set_cons_succ, List.set_cons_zero]
    show wpSs Γ (.cons (.exR "BadLine" "line" "word" 1 (.cons (.pv (.var 2)) (.cons (.pv (.var 3)) (.nil)))) _) _ _
    simp only [rd] at h
    have hl1 : lineR n l = if 2000 < l.length ∨ 400 ≤ n then .bad "limit" else if passes (wd l) = true then .skip else match stepR (wd l) with
      | .inl w => .bad w
      | .inr s => .stp s := rfl
    by_cases hs : shortOk ((n : Int) + 1) l 400
    · have hs2 : ¬ (2000 < l.length ∨ 400 ≤ n) := by
        simp only [shortOk] at hs
        intro h; exact hs (h.imp id (by omega))
      rw [if_neg hs2] at hl1
      have hct : ct_ns [.at (.int ((n : Int) + 1)), tD l] (.at .non) none := ⟨_, l, rfl, hbl, by rw [if_pos hs]; exact ⟨rfl, rfl⟩⟩
      by_cases hp : passes (wd l) = true
      · rw [if_pos hp] at hl1
        rw [hl1] at h
        have := ih acc (some (.at (.int ((n : Int) + 1)))) (some (tD l)) (some (.nd .lst false [])) Q hbs (by omega) h
        simp [wpSs, Z.wpS, wpE, wpP, wpPT, wpT, wpEs, wpO, wpOT, wpIt, h1, hp, callR]
        refine ⟨_, _, hct, ?_⟩
        simp
        exact this
      · rw [if_neg hp] at hl1
        have hne : wd l ≠ [] := fun e => hp (by rw [e]; rfl)
        have hwb : ∀ w ∈ wd l, w.length ≤ BIG := fun w hw => Nat.le_trans (wd_mem hw).2.1 hbl
        have hwl := wd_len l
        simp [wpSs, Z.wpS, wpE, wpP, wpPT, wpT, wpEs, wpO, wpOT, wpIt, h1, h4, hp, callR, hne]
        refine ⟨_, _, hct, ?_⟩
        simp [hne]
        refine ⟨fr_tL _, ?_⟩
        cases hst : stepR (wd l) with
        | inl w =>
          rw [hst] at hl1
          rw [hl1] at h
          refine ⟨.nd .tup false [.at (.int ((n : Int) + 1)), .at (.str w)], some (.at .non), ⟨_, wd l, rfl, hne, hwb, by omega, ?_⟩, ?_⟩
          · rw [hst]; exact ⟨rfl, rfl⟩
          · exact ⟨_, _, rfl, h _⟩
        | inr s =>
          rw [hst] at hl1
          rw [hl1] at h
          refine ⟨stD s, none, ⟨_, wd l, rfl, hne, hwb, by omega, ?_⟩, ?_⟩
          · rw [hst]; exact ⟨rfl, rfl⟩
          · have hBIG : BIG = 200000 := rfl
            refine ⟨by omega, ?_⟩
            have e : stL acc ++ [stD s] = stL (acc ++ [s]) := by simp
            rw [e]
            refine ih (acc ++ [s]) _ _ _ Q hbs (by simp; omega) ?_
            cases hr : rd (n + 1) ls with
            | inl p => rw [hr] at h; exact h
            | inr ss => rw [hr] at h; simpa using h
    · have hs2 : 2000 < l.length ∨ 400 ≤ n := by
        simp only [shortOk, Classical.not_not] at hs
        exact hs.imp id (by omega)
      rw [if_pos hs2] at hl1
      rw [hl1] at h
      have hct : ct_ns [.at (.int ((n : Int) + 1)), tD l] (.nd .tup false [.at (.int ((n : Int) + 1)), .at (.str "limit")]) (some (.at .non)) := ⟨_, l, rfl, hbl, by rw [if_neg hs]; exact ⟨rfl, rfl⟩⟩
      simp [wpSs, Z.wpS, wpE, wpP, wpPT, wpT, wpEs, wpO, wpOT, wpIt, h1, callR]
      refine ⟨_, _, hct, ?_⟩
      simp
      exact ⟨_, _, ⟨rfl, rfl⟩, h _⟩
def resR (t : Tx) : (Nat × Str) ⊕ List St → D → Option D → Prop
  | .inl (m, w), r, o => r = .nd .tup false [.at (.int m), .at (.str w)] ∧ o = some (.at .non)
  | .inr ss, r, o => r = .nd .tup true (stL ss) ∧ o = none
def ct_rsc : Ct := fun ds r o => ∃ t, ds = [tD t] ∧ t.length ≤ BIG ∧ resR t (rd 0 (ln t)) r o
theorem l_rsc {Γ : Nat → Ct} (h0 : Γ 0 = ct_tl) (h1 : Γ 1 = ct_ns) (h4 : Γ 4 = ct_rs) : ∀ ds r o, ct_rsc ds r o → ds.length = 1 ∧ wpSs Γ bread_script (startD 5 ds) (retR "BadLine" "line" "word" r o) := by
  rintro ds r o ⟨t, rfl, hl, hr⟩
  refine ⟨rfl, ?_⟩
  have hB := sizeB
  have hll := ln_len t
  have hlm := fun l (h : l ∈ ln t) => (ln_mem h).2
  unfold bread_script
  refine cutS (fun δ => δ = [some (tD t), some (.nd .lst true []), none, none, none]) (by repeat' (first | exact True.intro | (refine pt_spl ?_ ?_) | (refine pt_ninS ?_ ?_) | (refine pt_mulS ?_ ?_) | (refine pt_crp ?_) | (refine pt_ch ?_ ?_ ?_) | (refine pt_kg ?_) | (refine pt_dsp ?_ ?_ ?_ ?_) | (exact pt_mvf) | (refine pt_rplD ?_ ?_ ?_ ?_) | (refine pt_E' ?_) | (exact fun h => nomatch h) | constructor)) (by simp [wpSs, Z.wpS, wpE, wpP, wpPT, wpT, wpEs, wpO, wpOT, wpIt]) ?_
  rintro _ rfl
  refine cutR (fun δ => ∃ ss a b c, rd 0 (ln t) = .inr ss ∧ δ = [some (tD t), some (.nd .lst true (stL ss)), a, b, c]) (by repeat' (first | exact True.intro | (refine pt_spl ?_ ?_) | (refine pt_ninS ?_ ?_) | (refine pt_mulS ?_ ?_) | (refine pt_crp ?_) | (refine pt_ch ?_ ?_ ?_) | (refine pt_kg ?_) | (refine pt_dsp ?_ ?_ ?_ ?_) | (exact pt_mvf) | (refine pt_rplD ?_ ?_ ?_ ?_) | (refine pt_E' ?_) | (exact fun h => nomatch h) | constructor)) ?_ ?_
  · simp only [Z.wpS, wpIt, wpE, wpEs, h0, wpP]
    refine ⟨tD t, rfl, rfl, ?_⟩
    simp only [q_call_n]
    refine ⟨_, none, ⟨t, rfl, hl, rfl, rfl⟩, ?_⟩
    simp only [q_seq_l]
    refine ⟨fr_items _, ?_⟩
    rw [items_0]
    refine rd_loop h1 h4 t (ln t) 0 [] _ _ _ _ (fun l h => Nat.le_trans (hlm l h) hl) (by simp; omega) ?_
    cases hrd : rd 0 (ln t) with
    | inl p =>
      obtain ⟨m, w⟩ := p
      rw [hrd] at hr
      obtain ⟨rfl, rfl⟩ := hr
      exact fun δ => .inr ⟨fun _ h => (by cases h), rfl, by simp, _, _, rfl, rfl⟩
    | inr ss => exact fun a b c => .inl ⟨_, rfl, ss, a, b, c, rfl, rfl⟩
  rintro _ ⟨ss, a, b, c, hrd, rfl⟩
  rw [hrd] at hr
  obtain ⟨rfl, rfl⟩ := hr
  simp [wpSs, Z.wpS, wpE, wpP, wpPT, wpT, wpEs, wpO, wpOT, wpIt, fr_stL, retR]
end K07
set_option Elab.async false
set_option linter.all false
set_option maxRecDepth 100000
set_option autoImplicit false
set_option maxHeartbeats 4000000
namespace K07
open PySem L2 Z
/-! ## the law's own reader -/
def itemsN : Nat → List Tx → List D
  | _, [] => []
  | n, _ :: ls => .at (.int n) :: itemsN (n + 1) ls
theorem itemsN_eq : ∀ (ls : List Tx) (n : Nat), (List.range' n ls.length).map (fun (i : Nat) => D.at (.int i)) = itemsN n ls
  | [], n => rfl
  | l :: ls, n => by
    rw [List.length_cons, List.range'_succ, List.map_cons, itemsN_eq ls (n + 1)]; rfl
theorem itemsN_0 (ls : List Tx) : (List.range ls.length).map (fun (i : Nat) => D.at (.int i)) = itemsN 0 ls := by
  rw [List.range_eq_range', itemsN_eq]
def readD : (Nat × Str) ⊕ List St → D
  | .inl (m, w) => .nd .tup false [.at (.str "line"), .at (.int m), .at (.str w)]
  | .inr ss => .nd .tup false [.at (.str "told"), .nd .tup false (stL ss)]
def lrB : Ss := frB (hdS (tlS (tlS (tlS b_law_read))))
def lrE (t : Tx) (LS : List Tx) (acc : List St) (a b c d : Option D) : Z.Env := [some (tD t), some (.nd .lst true (tL LS)), some (.nd .lst true (stL acc)), a, b, c, d, none]
theorem frz_tLb (ls : List Tx) : (D.nd .lst false (tL ls)).frz = .nd .lst false (tL ls) := by show D.nd .lst false (frzL (tL ls)) = _; rw [frz_tL]
theorem lr_body {Γ : Nat → Ct} (h11 : Γ 11 = ct_li) (t : Tx) (LS : List Tx) (l : Tx) (n : Nat) (hn : LS[n]? = some l) (acc : List St) (b c d : Option D) (k : Out → Prop) (hb : l.length ≤ BIG) (hl : acc.length ≤ BIG + 1)
    (h : match lineR n l with
      | .bad w => ∀ δ, k (.rt (.nd .tup false [.at (.str "line"), .at (.int ((n : Int) + 1)), .at (.str w)]) δ)
      | .skip => ∀ a b c d, k (.ct (lrE t LS acc a b c d))
      | .stp s => ∀ a b c d, k (.nx (lrE t LS (acc ++ [s]) a b c d))) :
    wpSs Γ lrB (lrE t LS acc (some (.at (.int n))) b c d) k := by
  have hB := sizeB
  have h2 := size2
  have h3 := size3
  have hBIG : BIG = 200000 := rfl
  have hat : atI (tL LS) (n : Int) = some (tD l) := atI_nat (by rw [List.getElem?_map, hn]; rfl)
  have hz : l.length ≤ sizeLine := by omega
  have hz2 : l.length + 2 ≤ sizeLine := by omega
  unfold lineR at h
  unfold lrB b_law_read
  simp only [tlS, hdS, frB]
  refine cutR (fun δ => δ = lrE t LS acc (some (.at (.int n))) b c d ∧ ¬ (2000 < l.length ∨ 400 ≤ n)) (by repeat' (first | exact True.intro | (refine pt_spl ?_ ?_) | (refine pt_ninS ?_ ?_) | (refine pt_mulS ?_ ?_) | (refine pt_crp ?_) | (refine pt_ch ?_ ?_ ?_) | (refine pt_kg ?_) | (refine pt_dsp ?_ ?_ ?_ ?_) | (exact pt_mvf) | (refine pt_rplD ?_ ?_ ?_ ?_) | (refine pt_E' ?_) | (exact fun h => nomatch h) | constructor)) ?_ ?_
  · by_cases hs : 2000 < l.length ∨ 400 ≤ n
    · rw [if_pos hs] at h
      simp [wpSs, Z.wpS, wpE, wpP, wpPT, wpT, wpEs, wpO, wpOT, wpIt, lrE, hat, hz, hs, h3]
      by_cases c1 : (2000 : Int) < (l.length : Int)
      · rw [if_pos c1]; exact h _
      · rw [if_neg c1]
        refine ⟨?_, h _⟩
        rcases hs with h | h
        · omega
        · omega
    · simp [wpSs, Z.wpS, wpE, wpP, wpPT, wpT, wpEs, wpO, wpOT, wpIt, lrE, hat, hz, hs]
      rw [if_neg (by omega)]
      intro h
      exact absurd (.inr (by omega)) hs
  rintro _ ⟨rfl, hs⟩
  rw [if_neg hs] at h
  refine cutS (fun δ => δ = lrE t LS acc (some (.at (.int n))) (some (.nd .lst true (tL (wd l)))) c d) (by repeat' (first | exact True.intro | (refine pt_spl ?_ ?_) | (refine pt_ninS ?_ ?_) | (refine pt_mulS ?_ ?_) | (refine pt_crp ?_) | (refine pt_ch ?_ ?_ ?_) | (refine pt_kg ?_) | (refine pt_dsp ?_ ?_ ?_ ?_) | (exact pt_mvf) | (refine pt_rplD ?_ ?_ ?_ ?_) | (refine pt_E' ?_) | (exact fun h => nomatch h) | constructor)) ?_ ?_
  · simp [wpSs, Z.wpS, wpE, wpP, wpPT, wpT, wpEs, wpO, wpOT, wpIt, lrE, hat, splW, split_sp, hz2, -List.map_map]
    refine ⟨by decide, frozL_sL _, ?_⟩
    rw [sL_S]
    refine words_cmp (Γ := Γ) (l := l) (δ0 := lrE t LS acc (some (.at (.int n))) b c d) hb (fun p hp k hk => ?_) ?_
    · by_cases h : p = []
      · subst h
        simp [lrE] at hk ⊢
        exact hk
      · simp [h, lrE] at hk ⊢
        exact hk
    · simp [lrE]
  rintro _ rfl
  have hne := fun p (h : p ∈ wd l) => wd_mem h
  have hwl := wd_len l
  generalize wd l = ws at *
  cases ws with
  | nil =>
    rw [if_pos (show passes [] = true from rfl)] at h
    refine cutR (fun _ => False) (by repeat' (first | exact True.intro | (refine pt_spl ?_ ?_) | (refine pt_ninS ?_ ?_) | (refine pt_mulS ?_ ?_) | (refine pt_crp ?_) | (refine pt_ch ?_ ?_ ?_) | (refine pt_kg ?_) | (refine pt_dsp ?_ ?_ ?_ ?_) | (exact pt_mvf) | (refine pt_rplD ?_ ?_ ?_ ?_) | (refine pt_E' ?_) | (exact fun h => nomatch h) | constructor)) ?_ (fun _ h => h.elim)
    simp [wpSs, Z.wpS, wpE, wpP, wpPT, wpT, wpEs, wpO, wpOT, wpIt, lrE]
    exact h _ _ _ _
  | cons w0 rest =>
  obtain ⟨h0, hw0, _⟩ := hne w0 List.mem_cons_self
  obtain ⟨ch, w0', rfl⟩ : ∃ ch w, w0 = ch :: w := by
    cases w0 with
    | nil => exact absurd rfl h0
    | cons a b => exact ⟨a, b, rfl⟩
  have hzw : (ch :: w0').length ≤ sizeLine := by omega
  have hzw' : w0'.length + 1 ≤ sizeLine := hzw
  by_cases hch : ch = 35
  · subst hch
    rw [if_pos (show passes ((35 :: w0') :: rest) = true by simp [passes])] at h
    refine cutR (fun _ => False) (by repeat' (first | exact True.intro | (refine pt_spl ?_ ?_) | (refine pt_ninS ?_ ?_) | (refine pt_mulS ?_ ?_) | (refine pt_crp ?_) | (refine pt_ch ?_ ?_ ?_) | (refine pt_kg ?_) | (refine pt_dsp ?_ ?_ ?_ ?_) | (exact pt_mvf) | (refine pt_rplD ?_ ?_ ?_ ?_) | (refine pt_E' ?_) | (exact fun h => nomatch h) | constructor)) ?_ (fun _ h => h.elim)
    simp [wpSs, Z.wpS, wpE, wpP, wpPT, wpT, wpEs, wpO, wpOT, wpIt, lrE, S1_eq, hzw']
    exact h _ _ _ _
  rw [if_neg (show ¬ passes ((ch :: w0') :: rest) = true by simp [passes, hch])] at h
  refine cutS (fun δ => δ = lrE t LS acc (some (.at (.int n))) (some (.nd .lst true (tL ((ch :: w0') :: rest)))) c d) (by repeat' (first | exact True.intro | (refine pt_spl ?_ ?_) | (refine pt_ninS ?_ ?_) | (refine pt_mulS ?_ ?_) | (refine pt_crp ?_) | (refine pt_ch ?_ ?_ ?_) | (refine pt_kg ?_) | (refine pt_dsp ?_ ?_ ?_ ?_) | (exact pt_mvf) | (refine pt_rplD ?_ ?_ ?_ ?_) | (refine pt_E' ?_) | (exact fun h => nomatch h) | constructor)) ?_ ?_
  · simp [wpSs, Z.wpS, wpE, wpP, wpPT, wpT, wpEs, wpO, wpOT, wpIt, lrE, S1_eq, hzw', hch]
    omega
  rintro _ rfl
  generalize ch :: w0' = w0 at *
  unfold stepR at h
  rw [List.getD_cons_zero] at h
  refine cutR (fun δ => δ = lrE t LS acc (some (.at (.int n))) (some (.nd .lst true (tL (w0 :: rest)))) c d ∧ (w0 = tDo ∨ w0 = tAsk) ∧ 4 ≤ (w0 :: rest).length ∧ (w0 = tAsk → (w0 :: rest).length = 4)) (by repeat' (first | exact True.intro | (refine pt_spl ?_ ?_) | (refine pt_ninS ?_ ?_) | (refine pt_mulS ?_ ?_) | (refine pt_crp ?_) | (refine pt_ch ?_ ?_ ?_) | (refine pt_kg ?_) | (refine pt_dsp ?_ ?_ ?_ ?_) | (exact pt_mvf) | (refine pt_rplD ?_ ?_ ?_ ?_) | (refine pt_E' ?_) | (exact fun h => nomatch h) | constructor)) ?_ ?_
  · by_cases hb : ((w0 ≠ tDo ∧ w0 ≠ tAsk) ∨ (w0 :: rest).length < 4) ∨ (w0 = tAsk ∧ 4 < (w0 :: rest).length)
    · rw [if_pos hb] at h
      have hb2 : ¬ ((w0 = tDo ∨ w0 = tAsk) ∧ 3 ≤ rest.length ∧ (w0 = tAsk → rest.length = 3)) := by
        simp only [List.length_cons] at hb
        rintro ⟨a, b, c⟩
        rcases hb with (⟨x, y⟩ | x) | ⟨x, y⟩
        · exact a.elim x y
        · omega
        · have := c x; omega
      simp only [] at h
      have h' := h (lrE t LS acc (some (.at (.int n))) (some (.nd .lst true (tL (w0 :: rest)))) c d)
      simp only [lrE] at h'
      simp [wpSs, Z.wpS, wpE, wpP, wpPT, wpT, wpEs, wpO, wpOT, wpIt, lrE, ofS_do, ofS_ask, h2, h3, inV_do]
      simp only [List.map_cons] at h'
      simp only [h', hb2, if_true, if_false, ite_self, implies_true, true_and]
      by_cases c1 : tDo = w0 ∨ tAsk = w0
      · rw [if_pos c1]
        by_cases c2 : (rest.length : Int) + 1 < 4
        · rw [if_pos c2]; trivial
        · rw [if_neg c2]
          have hw3 : 3 ≤ rest.length := by omega
          have hor : w0 = tDo ∨ w0 = tAsk := c1.imp Eq.symm Eq.symm
          by_cases c3 : w0 = tAsk
          · rw [if_pos c3]
            by_cases c4 : (4 : Int) < (rest.length : Int) + 1
            · rw [if_pos c4]; trivial
            · exact absurd ⟨hor, hw3, fun _ => by omega⟩ hb2
          · exact absurd ⟨hor, hw3, fun h => absurd h c3⟩ hb2
      · rw [if_neg c1]; trivial
    · simp only [List.length_cons] at hb
      have c1 : tDo = w0 ∨ tAsk = w0 := Classical.byContradiction fun h => hb (.inl (.inl ⟨fun e => h (.inl e.symm), fun e => h (.inr e.symm)⟩))
      have c2 : ¬ ((rest.length : Int) + 1 < 4) := fun h => hb (.inl (.inr (by omega)))
      have hor : w0 = tDo ∨ w0 = tAsk := c1.imp Eq.symm Eq.symm
      have c4 : w0 = tAsk → rest.length = 3 := fun h => Classical.byContradiction fun h2 => hb (.inr ⟨h, by omega⟩)
      simp [wpSs, Z.wpS, wpE, wpP, wpPT, wpT, wpEs, wpO, wpOT, wpIt, lrE, ofS_do, ofS_ask, h2, inV_do, c1, c2]
      by_cases c3 : w0 = tAsk
      · have := c4 c3
        rw [if_pos c3, if_neg (by omega)]
        exact ⟨hor, by omega, c4⟩
      · rw [if_neg c3]
        exact ⟨hor, by omega, c4⟩
  rintro _ ⟨rfl, hk, h4, hk4⟩
  simp only [List.length_cons] at h4 hk4 hwl
  have hr1 : ¬ (((w0 ≠ tDo ∧ w0 ≠ tAsk) ∨ (w0 :: rest).length < 4) ∨ (w0 = tAsk ∧ 4 < (w0 :: rest).length)) := by
    simp only [List.length_cons]
    rintro ((⟨x, y⟩ | x) | ⟨x, y⟩)
    · exact hk.elim x y
    · omega
    · have := hk4 x; omega
  rw [if_neg hr1] at h
  obtain ⟨w1, w2, w3, more, rfl⟩ : ∃ w1 w2 w3 more, rest = w1 :: w2 :: w3 :: more := by
    match rest, h4 with
    | [], h => simp at h
    | [_], h => simp at h
    | [_, _], h => simp at h
    | a :: b :: c :: d, _ => exact ⟨a, b, c, d, rfl⟩
  have hd2 : (w0 :: w1 :: w2 :: w3 :: more).drop 2 = w2 :: w3 :: more := rfl
  rw [hd2] at h
  have e := slc_from2 (ws := w0 :: w1 :: w2 :: w3 :: more)
  rw [hd2] at e
  simp only [List.length_cons] at hwl
  have hwb : ∀ w ∈ (w2 :: w3 :: more), w.length ≤ BIG := fun w hw => Nat.le_trans (hne w (List.mem_cons_of_mem _ (List.mem_cons_of_mem _ hw))).2.1 hb
  have hbad : (w2 :: w3 :: more).all isI = false → ((w2 :: w3 :: more).filterMap fun w => if isI w = true then none else some (tD w)) ≠ [] := fun hf he => by
    have : (w2 :: w3 :: more).all isI = true := by
      rw [List.all_eq_true]
      intro w hw
      have := List.filterMap_eq_nil_iff.mp he w hw
      by_cases hI : isI w = true
      · exact hI
      · rw [if_neg hI] at this; cases this
    rw [this] at hf; cases hf
  have hgood : (w2 :: w3 :: more).all isI = true → ((w2 :: w3 :: more).filterMap fun w => if isI w = true then none else some (tD w)) = [] := fun hf => List.filterMap_eq_nil_iff.mpr fun w hw => by
    rw [List.all_eq_true] at hf
    rw [if_pos (hf w hw)]
  have hloop : ∀ (Q : List D → Z.Env → Prop), Q ((w2 :: w3 :: more).filterMap fun w => if isI w = true then none else some (tD w)) (lrE t LS acc (some (.at (.int n))) (some (.nd .lst false (tL (w0 :: w1 :: w2 :: w3 :: more)))) c d) →
      forC (compB [7] (wpG (.name 7)) (wpOT Γ (.some (.not (.v (.call 11 (.cons (.pv (.var 7)) (.nil)) none))))) (wpE Γ (.pv (.var 7)))) (tL (w2 :: w3 :: more)) (lrE t LS acc (some (.at (.int n))) (some (.nd .lst false (tL (w0 :: w1 :: w2 :: w3 :: more)))) c d) [] Q := fun Q hQ => by
    refine forC_fmL tD (fun w => if isI w = true then none else some (tD w)) (w2 :: w3 :: more) Q (fun w hwm k hk => ?_) (by simp only [List.length_cons]; omega) hQ
    have hbw := hwb w hwm
    simp [wpSs, Z.wpS, wpE, wpP, wpPT, wpT, wpEs, wpO, wpOT, wpIt, lrE, h11]
    refine ⟨_, ⟨none, w, rfl, hbw, rfl, rfl⟩, ?_⟩
    by_cases hI : isI w = true
    · simp [hI, lrE] at hk ⊢; exact hk
    · simp [hI, lrE] at hk ⊢; exact hk
  by_cases hall : (w2 :: w3 :: more).all isI = true
  · rw [if_neg (by rw [hall]; simp)] at h
    refine cutS (fun δ => δ = lrE t LS acc (some (.at (.int n))) (some (.nd .lst false (tL (w0 :: w1 :: w2 :: w3 :: more)))) c d) (by repeat' (first | exact True.intro | (refine pt_spl ?_ ?_) | (refine pt_ninS ?_ ?_) | (refine pt_mulS ?_ ?_) | (refine pt_crp ?_) | (refine pt_ch ?_ ?_ ?_) | (refine pt_kg ?_) | (refine pt_dsp ?_ ?_ ?_ ?_) | (exact pt_mvf) | (refine pt_rplD ?_ ?_ ?_ ?_) | (refine pt_E' ?_) | (exact fun h => nomatch h) | constructor)) ?_ ?_
    · simp only [Z.wpS, wpT, wpE, wpIt, wpO]
      refine ⟨_, rfl, ?_⟩
      rw [frz_tL2]
      refine ⟨2, rfl, ?_⟩
      refine ⟨fr_tL _, ?_⟩
      rw [List.length_map, e]
      simp only [q_seq_l]
      refine ⟨fr_tL _, hloop _ ?_⟩
      rw [hgood hall]
      simp [lrE, wpSs, Z.wpS, wpE, wpP, wpPT, wpT, wpEs, wpO, wpOT, wpIt]
    rintro _ rfl
    refine cutS (fun δ => δ = lrE t LS acc (some (.at (.int n))) (some (.nd .lst false (tL (w0 :: w1 :: w2 :: w3 :: more)))) (some (.nd .lst true (iL ((w2 :: w3 :: more).map intV)))) d) (by repeat' (first | exact True.intro | (refine pt_spl ?_ ?_) | (refine pt_ninS ?_ ?_) | (refine pt_mulS ?_ ?_) | (refine pt_crp ?_) | (refine pt_ch ?_ ?_ ?_) | (refine pt_kg ?_) | (refine pt_dsp ?_ ?_ ?_ ?_) | (exact pt_mvf) | (refine pt_rplD ?_ ?_ ?_ ?_) | (refine pt_E' ?_) | (exact fun h => nomatch h) | constructor)) ?_ ?_
    · simp only [Z.wpS, wpE, wpIt, wpO]
      refine ⟨_, rfl, ?_⟩
      rw [frz_tLb]
      refine ⟨2, rfl, ?_⟩
      refine ⟨fr_tL _, ?_⟩
      rw [List.length_map, e]
      simp only [q_seq_l]
      refine ⟨fr_tL _, ?_⟩
      refine forC_mapL tD (fun w => .at (.int (intV w))) (w2 :: w3 :: more) (δ0 := lrE t LS acc (some (.at (.int n))) (some (.nd .lst false (tL (w0 :: w1 :: w2 :: w3 :: more)))) c d) _ (fun w hwm k hk => ?_) (by simp only [List.length_cons]; omega) ?_
      · have hI : isI w = true := by rw [List.all_eq_true] at hall; exact hall w hwm
        have hil := isI_len hI
        simp [wpSs, Z.wpS, wpE, wpP, wpPT, wpT, wpEs, wpO, wpOT, wpIt, lrE, intV_ok hI]
        simp [lrE] at hk
        exact ⟨by omega, hk⟩
      · simp [lrE]
    rintro _ rfl
    refine cutS (fun δ => δ = lrE t LS acc (some (.at (.int n))) (some (.nd .lst false (tL (w0 :: w1 :: w2 :: w3 :: more)))) (some (.nd .lst true (iL ((w2 :: w3 :: more).map intV)))) (some (.nd .tup false [tD w0, tD w1, .nd .tup false [.at (.int (intV w2)), .at (.int (intV w3))]]))) (by repeat' (first | exact True.intro | (refine pt_spl ?_ ?_) | (refine pt_ninS ?_ ?_) | (refine pt_mulS ?_ ?_) | (refine pt_crp ?_) | (refine pt_ch ?_ ?_ ?_) | (refine pt_kg ?_) | (refine pt_dsp ?_ ?_ ?_ ?_) | (exact pt_mvf) | (refine pt_rplD ?_ ?_ ?_ ?_) | (refine pt_E' ?_) | (exact fun h => nomatch h) | constructor)) ?_ ?_
    · simp [wpSs, Z.wpS, wpE, wpP, wpPT, wpT, wpEs, wpO, wpOT, wpIt, lrE, h2, h3]
    rintro _ rfl
    simp only [] at h
    have hal : acc.length < sizeLine := by omega
    have hz : (D.nd .lst true (iL ((w2 :: w3 :: more).map intV))).frz = .nd .lst false (iL ((w2 :: w3 :: more).map intV)) := by
      show D.nd .lst false (frzL _) = _
      rw [frzL_iL]
    have hf : frozL (iL ((w2 :: w3 :: more).map intV)) = true := frozL_iL _
    have hl2 : 2 ≤ (iL ((w2 :: w3 :: more).map intV)).length := by simp
    have e2 := sl_from2 hl2
    have e4 : (iL ((w2 :: w3 :: more).map intV)).drop 2 = iL (more.map intV) := rfl
    have hm : frozL (iL (more.map intV)) = true := frozL_iL _
    rcases hk with rfl | rfl
    · have h' := h (some (.at (.int n))) (some (.nd .lst false (tL (tDo :: w1 :: w2 :: w3 :: more)))) (some (.nd .lst false (iL ((w2 :: w3 :: more).map intV)))) (some (.nd .tup false [tD tDo, tD w1, .nd .tup false [.at (.int (intV w2)), .at (.int (intV w3))]]))
      have e5 : decide (tDo ≠ tAsk) = true := by decide
      have e6 : stL (acc ++ [⟨true, w1, intV w2, intV w3, more.map intV⟩]) = stL acc ++ [.nd .tup false [tD tDo, tD w1, .nd .tup false [.at (.int (intV w2)), .at (.int (intV w3))], .nd .tup false (iL (more.map intV))]] := by
        simp [stL, stD, ofS_do]
      simp only [List.getD_cons_succ, List.getD_cons_zero, List.drop_succ_cons, List.drop_zero, e5, lrE, e6] at h'
      generalize iL ((w2 :: w3 :: more).map intV) = xs at *
      simp [wpSs, Z.wpS, wpE, wpP, wpPT, wpT, wpEs, wpO, wpOT, wpIt, lrE, ofS_do, S_eq, hz, hf, e2, e4, hm, hal, -List.map_map]
      exact ⟨by omega, by omega, h'⟩
    · obtain rfl : more = [] := by
        have := hk4 rfl
        simp at this
        exact this
      have h' := h (some (.at (.int n))) (some (.nd .lst false (tL (tAsk :: w1 :: w2 :: [w3])))) (some (.nd .lst true (iL ((w2 :: [w3]).map intV)))) (some (.nd .tup false [tD tAsk, tD w1, .nd .tup false [.at (.int (intV w2)), .at (.int (intV w3))]]))
      have e5 : decide (tAsk ≠ tAsk) = false := by decide
      have e6 : stL (acc ++ [⟨false, w1, intV w2, intV w3, []⟩]) = stL acc ++ [.nd .tup false [tD tAsk, tD w1, .nd .tup false [.at (.int (intV w2)), .at (.int (intV w3))]]] := by
        simp [stL, stD, ofS_ask]
      simp only [List.getD_cons_succ, List.getD_cons_zero, List.drop_succ_cons, List.drop_zero, List.map_nil, e5, lrE, e6] at h'
      generalize iL ((w2 :: [w3]).map intV) = xs at *
      simp [wpSs, Z.wpS, wpE, wpP, wpPT, wpT, wpEs, wpO, wpOT, wpIt, lrE, ofS_do, S_eq, hal, show tAsk ≠ tDo by decide, -List.map_map]
      exact h'
  · have hall' : (w2 :: w3 :: more).all isI = false := by simpa using hall
    rw [if_pos hall'] at h
    refine cutR (fun _ => False) (by repeat' (first | exact True.intro | (refine pt_spl ?_ ?_) | (refine pt_ninS ?_ ?_) | (refine pt_mulS ?_ ?_) | (refine pt_crp ?_) | (refine pt_ch ?_ ?_ ?_) | (refine pt_kg ?_) | (refine pt_dsp ?_ ?_ ?_ ?_) | (exact pt_mvf) | (refine pt_rplD ?_ ?_ ?_ ?_) | (refine pt_E' ?_) | (exact fun h => nomatch h) | constructor)) ?_ (fun _ h => h.elim)
    simp only [Z.wpS, wpT, wpE, wpIt, wpO]
    refine ⟨_, rfl, ?_⟩
    rw [frz_tL2]
    refine ⟨2, rfl, ?_⟩
    refine ⟨fr_tL _, ?_⟩
    rw [List.length_map, e]
    simp only [q_seq_l]
    refine ⟨fr_tL _, hloop _ ?_⟩
    have hpos := List.length_pos_iff.mpr (hbad hall')
    generalize ((w2 :: w3 :: more).filterMap fun w => if isI w = true then none else some (tD w)) = xs at *
    have hpos' : (0 : Int) < (xs.length : Int) := by omega
    simp [lrE, wpSs, Z.wpS, wpE, wpP, wpPT, wpT, wpEs, wpO, wpOT, wpIt, hpos', hpos, h3]
    exact h _
theorem lr_loop {Γ : Nat → Ct} (h11 : Γ 11 = ct_li) (t : Tx) (LS : List Tx) : ∀ (ls : List Tx) (n : Nat) (acc : List St) (a b c d : Option D) (Q : Out → Prop), LS.drop n = ls → (∀ l ∈ ls, l.length ≤ BIG) → acc.length + ls.length ≤ BIG + 1 →
    (match rd n ls with
      | .inl (m, w) => ∀ δ, Q (.rt (.nd .tup false [.at (.str "line"), .at (.int m), .at (.str w)]) δ)
      | .inr ss => ∀ a b c d, Q (.nx (lrE t LS (acc ++ ss) a b c d))) →
    forW (fun d δ q => wpG (.name 3) d δ fun δ1 => wpSs Γ lrB δ1 q) (itemsN n ls) (lrE t LS acc a b c d) Q
  | [], n, acc, a, b, c, d, Q, _, _, _, h => by
    simp only [rd, List.append_nil] at h
    exact h a b c d
  | l :: ls, n, acc, a, b, c, d, Q, hd, hb, hl, h => by
    have hbl := hb l List.mem_cons_self
    have hn : LS[n]? = some l := by rw [← List.head?_drop, hd]; rfl
    have hd' : LS.drop (n + 1) = ls := by rw [← List.tail_drop, hd]; rfl
    simp only [List.length_cons] at hl
    have ih := lr_loop h11 t LS ls (n + 1)
    have hbs : ∀ l ∈ ls, l.length ≤ BIG := fun z hz => hb z (List.mem_cons_of_mem _ hz)
    simp only [itemsN, forW]
    show wpSs Γ lrB (lrE t LS acc (some (.at (.int n))) b c d) _
    refine lr_body h11 t LS l n hn acc b c d _ hbl (by omega) ?_
    simp only [rd] at h
    cases hlr : lineR n l with
    | bad w => rw [hlr] at h; exact h
    | skip =>
      rw [hlr] at h
      exact fun a b c d => ih acc a b c d Q hd' hbs (by omega) h
    | stp s =>
      rw [hlr] at h
      refine fun a b c d => ih (acc ++ [s]) a b c d Q hd' hbs (by simp; omega) ?_
      cases hr : rd (n + 1) ls with
      | inl p => rw [hr] at h; exact h
      | inr ss => rw [hr] at h; simpa using h
def ct_lr : Ct := fun ds r o => ∃ t, ds = [tD t] ∧ t.length ≤ BIG ∧ r = readD (rd 0 (ln t)) ∧ o = none
theorem l_lr {Γ : Nat → Ct} (h11 : Γ 11 = ct_li) : ∀ ds r o, ct_lr ds r o → ds.length = 1 ∧ wpSs Γ b_law_read (startD 8 ds) (retW none r o) := by
  rintro ds r o ⟨t, rfl, hl, rfl, rfl⟩
  refine ⟨rfl, ?_⟩
  have hB := sizeB
  have hBIG : BIG = 200000 := rfl
  have hz : (S t).length + 2 ≤ sizeLine := by rw [SX.S_len]; omega
  have hlast : ∃ p, (cut 10 t).getLast? = some p := by
    cases h : (cut 10 t).getLast? with
    | none => exact absurd (List.getLast?_eq_none_iff.mp h) (cut_ne 10 t)
    | some p => exact ⟨p, rfl⟩
  obtain ⟨p, hp⟩ := hlast
  have hp2 : atI (tL (cut 10 t)) (-1) = some (tD p) := atI_last (by rw [getLast_map, hp]; rfl)
  have hdl : (tL (cut 10 t)).dropLast = tL (cut 10 t).dropLast := by simp [tL, List.map_dropLast]
  unfold b_law_read
  refine cutS (fun δ => δ = [some (tD t), some (.nd .lst true (tL (cut 10 t))), none, none, none, none, none, none]) (by repeat' (first | exact True.intro | (refine pt_spl ?_ ?_) | (refine pt_ninS ?_ ?_) | (refine pt_mulS ?_ ?_) | (refine pt_crp ?_) | (refine pt_ch ?_ ?_ ?_) | (refine pt_kg ?_) | (refine pt_dsp ?_ ?_ ?_ ?_) | (exact pt_mvf) | (refine pt_rplD ?_ ?_ ?_ ?_) | (refine pt_E' ?_) | (exact fun h => nomatch h) | constructor)) ?_ ?_
  · simp only [S_len'] at hz
    simp [wpSs, Z.wpS, wpE, wpP, wpPT, wpT, wpEs, wpO, wpOT, wpIt, splW, hz, split_nl]
    decide
  rintro _ rfl
  refine cutS (fun δ => δ = [some (tD t), some (.nd .lst true (tL (ln t))), none, none, none, none, none, none]) (by repeat' (first | exact True.intro | (refine pt_spl ?_ ?_) | (refine pt_ninS ?_ ?_) | (refine pt_mulS ?_ ?_) | (refine pt_crp ?_) | (refine pt_ch ?_ ?_ ?_) | (refine pt_kg ?_) | (refine pt_dsp ?_ ?_ ?_ ?_) | (exact pt_mvf) | (refine pt_rplD ?_ ?_ ?_ ?_) | (refine pt_E' ?_) | (exact fun h => nomatch h) | constructor)) ?_ ?_
  · simp only [wpSs, Z.wpS, wpE, wpP, wpPT, wpT, wpEs, wpO, wpOT, wpIt]
    simp only [List.getElem?_cons_succ, List.getElem?_cons_zero, Option.some.injEq, exists_eq_left', q_b_idx, q_u_neg, q_neg_i, q_idx_l, hp2, q_b_eq, q_eq_s, q_tr_b]
    by_cases h : p = []
    · subst h
      have e : ln t = (cut 10 t).dropLast := by unfold ln; rw [if_pos hp]
      have hp4 : (cut 10 t)[(cut 10 t).length - 1]? = some [] := by rw [← List.getLast?_eq_getElem?]; exact hp
      rw [e, ← hdl]
      simp [hp4, wpSs, Z.wpS, wpE, wpP, wpPT, wpT, wpEs, wpO, wpOT, wpIt]
    · have e : ln t = cut 10 t := by unfold ln; rw [if_neg (by rw [hp]; simpa using h)]
      rw [e]
      simp [h, wpSs, Z.wpS, wpE, wpP, wpPT, wpT, wpEs, wpO, wpOT, wpIt]
  rintro _ rfl
  have hll := ln_len t
  have hlm := fun l (h : l ∈ ln t) => (ln_mem h).2
  generalize ln t = ls at *
  refine cutS (fun δ => δ = lrE t ls [] none none none none) (by repeat' (first | exact True.intro | (refine pt_spl ?_ ?_) | (refine pt_ninS ?_ ?_) | (refine pt_mulS ?_ ?_) | (refine pt_crp ?_) | (refine pt_ch ?_ ?_ ?_) | (refine pt_kg ?_) | (refine pt_dsp ?_ ?_ ?_ ?_) | (exact pt_mvf) | (refine pt_rplD ?_ ?_ ?_ ?_) | (refine pt_E' ?_) | (exact fun h => nomatch h) | constructor)) (by simp [wpSs, Z.wpS, wpE, wpP, wpPT, wpT, wpEs, wpO, wpOT, wpIt, lrE]) ?_
  rintro _ rfl
  refine cutR (fun δ => ∃ ss a b c d, rd 0 ls = .inr ss ∧ δ = lrE t ls ss a b c d) (by repeat' (first | exact True.intro | (refine pt_spl ?_ ?_) | (refine pt_ninS ?_ ?_) | (refine pt_mulS ?_ ?_) | (refine pt_crp ?_) | (refine pt_ch ?_ ?_ ?_) | (refine pt_kg ?_) | (refine pt_dsp ?_ ?_ ?_ ?_) | (exact pt_mvf) | (refine pt_rplD ?_ ?_ ?_ ?_) | (refine pt_E' ?_) | (exact fun h => nomatch h) | constructor)) ?_ ?_
  · simp only [Z.wpS, wpIt, wpE, wpP]
    refine ⟨.nd .lst true (tL ls), rfl, ?_⟩
    simp only [q_u_len, q_len_l]
    refine ⟨rfl, ls.length, by simp, by omega, by omega, ?_⟩
    rw [Int.toNat_natCast, itemsN_0]
    refine lr_loop h11 t ls ls 0 [] _ _ _ _ _ rfl (fun l h => Nat.le_trans (hlm l h) hl) (by simp; omega) ?_
    cases hrd : rd 0 ls with
    | inl p =>
      obtain ⟨m, w⟩ := p
      exact fun δ => .inr ⟨fun _ h => (by cases h), rfl, by simp⟩
    | inr ss => exact fun a b c d => .inl ⟨_, rfl, ss, a, b, c, d, rfl, rfl⟩
  rintro _ ⟨ss, a, b, c, d, hrd, rfl⟩
  rw [hrd]
  have h2 := size2
  simp [wpSs, Z.wpS, wpE, wpP, wpPT, wpT, wpEs, wpO, wpOT, wpIt, lrE, fr_stL, readD, h2]
end K07
set_option Elab.async false
set_option linter.all false
set_option maxRecDepth 100000
set_option autoImplicit false
set_option maxHeartbeats 4000000
namespace K07
open PySem L2 Z
/-! ## the writers -/
theorem strs_tL : ∀ ws : List Tx, strsOf (tL ws) = some (ws.map S)
  | [] => rfl
  | w :: ws => by show (strsOf (tL ws)).map (S w :: ·) = _; rw [strs_tL ws]; rfl
theorem join_sp (ws : List Tx) : Txt.join " " (ws.map S) = S (TL.joinL [32] ws) := by
  rw [show ((" " : Str)) = S [32] from ofS_eq " "]; exact SX.join_S _ _
theorem join_nl (ws : List Tx) : Txt.join "\n" (ws.map S) = S (TL.joinL [10] ws) := by
  rw [show (("\n" : Str)) = S [10] from ofS_eq "\n"]; exact SX.join_S _ _
theorem join_e (ws : List Tx) : Txt.join "" (ws.map S) = S (TL.joinL [] ws) := by
  rw [empty_S]; exact SX.join_S _ _
theorem joinOk_of {x : Str} {ws : List Tx} {n k : Nat} (h : ∀ w ∈ ws, w.length ≤ k) (hl : ws.length ≤ n) (hx : x.length ≤ 1) (hnk : n * (k + 1) ≤ 16777216) : joinOk x (ws.map S) := by
  unfold joinOk
  have h1 : ((ws.map S).map (·.length)).sum ≤ ws.length * k := by
    clear hl hnk
    induction ws with
    | nil => simp
    | cons w ws ih =>
      have := h w List.mem_cons_self
      have := ih fun z hz => h z (List.mem_cons_of_mem _ hz)
      simp only [List.map_cons, List.sum_cons, S_len', List.length_cons, Nat.succ_mul] at *
      omega
  have h2 : (ws.map S).length * x.length ≤ ws.length * 1 := by rw [List.length_map]; exact Nat.mul_le_mul_left _ hx
  have h3 : ws.length * (k + 1) ≤ n * (k + 1) := Nat.mul_le_mul_right _ hl
  rw [Nat.mul_succ] at h3
  omega
theorem len_sp : (" " : Str).length = 1 := rfl
theorem len_nl : ("\n" : Str).length = 1 := rfl
theorem len_e : ("" : Str).length = 0 := rfl
theorem nl_S : ("\n" : Str) = S [10] := ofS_eq "\n"
theorem log_of {i : Int} (h : i.natAbs < 10 ^ 10) : i.natAbs.log2 < 1920 := by
  have : i.natAbs ≤ 2 ^ 40 := by omega
  have := log2_of this
  omega
theorem intS' (i : Int) : Str.ofString i.repr = S (intT i) := intS i
def kindT (s : St) : Tx := if s.dd = true then tDo else tAsk
def StOks (ss : List St) : Prop := (∀ s ∈ ss, StOk s) ∧ ss.length ≤ 400
theorem stD_0 (s : St) : ∃ rest, stD s = .nd .tup false (tD (kindT s) :: tD s.nm :: .nd .tup false [.at (.int s.lo), .at (.int s.hi)] :: rest) ∧ (s.dd = true → rest = [.nd .tup false (iL s.ns)]) := by
  unfold stD kindT
  by_cases h : s.dd = true
  · simp [h, ofS_do]
  · simp [h, ofS_ask]
theorem str_cmp {xs : List Int} (hx : ∀ i ∈ xs, i.natAbs < 10 ^ 10) (hl : xs.length ≤ 1000) {δ0 : Z.Env} {body : D → Z.Env → (Option D → Z.Env → Prop) → Prop} {Q : List D → Z.Env → Prop} (hb : ∀ i ∈ xs, ∀ k : Option D → Z.Env → Prop, k (some (tD (intT i))) δ0 → body (.at (.int i)) δ0 k) (h : Q (tL (xs.map intT)) δ0) : forC body (iL xs) δ0 [] Q := by
  have := sizeB
  refine forC_mapL (fun i => D.at (.int i)) (fun i => tD (intT i)) xs Q hb (by omega) ?_
  rw [show xs.map (fun i => tD (intT i)) = tL (xs.map intT) by simp [tL]]
  exact h
def lineNl (s : St) : Tx := lineOf s ++ [10]
def ct_st : Ct := fun ds r o => ∃ ss f, ds = [.nd .tup f (stL ss)] ∧ StOks ss ∧ r = tD (many (ss.map lineOf)) ∧ o = none
theorem l_st {Γ : Nat → Ct} : ∀ ds r o, ct_st ds r o → ds.length = 1 ∧ wpSs Γ bscript_text (startD 6 ds) (retW none r o) := by
  rintro ds r o ⟨ss, f, rfl, ⟨hs, hl⟩, rfl, rfl⟩
  refine ⟨rfl, ?_⟩
  have hB := sizeB
  have h2 := size2
  unfold bscript_text
  refine cutS (fun δ => δ = [some (.nd .tup f (stL ss)), some (.nd .lst true []), none, none, none, none]) (by repeat' (first | exact True.intro | (refine pt_spl ?_ ?_) | (refine pt_ninS ?_ ?_) | (refine pt_mulS ?_ ?_) | (refine pt_crp ?_) | (refine pt_ch ?_ ?_ ?_) | (refine pt_kg ?_) | (refine pt_dsp ?_ ?_ ?_ ?_) | (exact pt_mvf) | (refine pt_rplD ?_ ?_ ?_ ?_) | (refine pt_E' ?_) | (exact fun h => nomatch h) | constructor)) (by simp [wpSs, Z.wpS, wpE, wpP, wpPT, wpT, wpEs, wpO, wpOT, wpIt]) ?_
  rintro _ rfl
  refine cutS (fun δ => ∃ a b, δ = [some (.nd .tup f (stL ss)), some (.nd .lst true (tL (ss.map lineNl))), a, b, none, none]) (by repeat' (first | exact True.intro | (refine pt_spl ?_ ?_) | (refine pt_ninS ?_ ?_) | (refine pt_mulS ?_ ?_) | (refine pt_crp ?_) | (refine pt_ch ?_ ?_ ?_) | (refine pt_kg ?_) | (refine pt_dsp ?_ ?_ ?_ ?_) | (exact pt_mvf) | (refine pt_rplD ?_ ?_ ?_ ?_) | (refine pt_E' ?_) | (exact fun h => nomatch h) | constructor)) ?_ ?_
  · simp only [Z.wpS, wpIt, wpE, wpP]
    refine ⟨_, rfl, fr_stL ss, ?_⟩
    simp only [q_seq_t]
    refine ⟨fr_stL ss, ?_⟩
    refine forW_ix (fun i δ => ∃ a b, δ = [some (.nd .tup f (stL ss)), some (.nd .lst true (tL ((ss.take i).map lineNl))), a, b, none, none]) _ _ 0 _ ⟨_, _, rfl⟩ ?_ ?_
    · rintro i d δ hd ⟨a, b, rfl⟩ k k1 _ _ _ _
      rw [List.getElem?_map] at hd
      obtain ⟨s, e1, rfl⟩ := Option.map_eq_some_iff.mp hd
      have hi := (List.getElem?_eq_some_iff.mp e1).1
      have ho := hs s (List.mem_of_getElem? e1)
      rw [take_snoc e1] at k1
      rw [Nat.zero_add]
      have htl : (ss.take i).length ≤ 400 := by rw [List.length_take]; omega
      generalize ss.take i = ts at *
      obtain ⟨rest, e2, e3⟩ := stD_0 s
      have hfr := fr_st s
      simp only [q_g_n, List.set_cons_succ, List.set_cons_zero]
      generalize hD : stD s = sd at *
      refine cutS (fun δ => δ = [some (.nd .tup f (stL ss)), some (.nd .lst true (tL (ts.map lineNl))), some sd, some (.nd .lst true (tL [kindT s, s.nm, intT s.lo, intT s.hi])), none, none]) (by repeat' (first | exact True.intro | (refine pt_spl ?_ ?_) | (refine pt_ninS ?_ ?_) | (refine pt_mulS ?_ ?_) | (refine pt_crp ?_) | (refine pt_ch ?_ ?_ ?_) | (refine pt_kg ?_) | (refine pt_dsp ?_ ?_ ?_ ?_) | (exact pt_mvf) | (refine pt_rplD ?_ ?_ ?_ ?_) | (refine pt_E' ?_) | (exact fun h => nomatch h) | constructor)) ?_ ?_
      · simp [wpSs, Z.wpS, wpE, wpP, wpPT, wpT, wpEs, wpO, wpOT, wpIt, e2, h2]
        refine str_cmp (xs := [s.lo, s.hi]) (fun i hi => by simp at hi; rcases hi with rfl | rfl; exact ho.lo; exact ho.hi) (by simp) (fun i hi k hk => ?_) ?_
        · have hlg : i.natAbs.log2 < 1920 := log_of (by simp at hi; rcases hi with rfl | rfl; exact ho.lo; exact ho.hi)
          simp [hlg, intS']
          exact hk
        · simp; omega
      rintro _ rfl
      refine cutS (fun δ => δ = [some (.nd .tup f (stL ss)), some (.nd .lst true (tL (ts.map lineNl))), some sd, some (.nd .lst true (tL (wordsOf s))), none, none]) (by repeat' (first | exact True.intro | (refine pt_spl ?_ ?_) | (refine pt_ninS ?_ ?_) | (refine pt_mulS ?_ ?_) | (refine pt_crp ?_) | (refine pt_ch ?_ ?_ ?_) | (refine pt_kg ?_) | (refine pt_dsp ?_ ?_ ?_ ?_) | (exact pt_mvf) | (refine pt_rplD ?_ ?_ ?_ ?_) | (refine pt_E' ?_) | (exact fun h => nomatch h) | constructor)) ?_ ?_
      · simp only [wpSs, Z.wpS, wpE, wpP, wpPT, wpT, wpEs, wpO, wpOT, wpIt]
        by_cases h : s.dd = true
        · have e4 := e3 h
          subst e4
          simp [wpSs, Z.wpS, wpE, wpP, wpPT, wpT, wpEs, wpO, wpOT, wpIt, e2, kindT, h, ofS_do]
          refine str_cmp (xs := s.ns) ho.ns (by have := ho.few; omega) (fun i hi k hk => ?_) ?_
          · have hlg : i.natAbs.log2 < 1920 := log_of (ho.ns i hi)
            simp [hlg, intS']
            exact hk
          · have := ho.few
            simp [wordsOf, h]
            omega
        · simp [wpSs, Z.wpS, wpE, wpP, wpPT, wpT, wpEs, wpO, wpOT, wpIt, e2, kindT, h, ofS_do, S_eq, show tAsk ≠ tDo by decide]
          simp [wordsOf, h]
      rintro _ rfl
      have hw := words_ok ho
      have hwl : (wordsOf s).length ≤ 7 := by
        unfold wordsOf
        have := ho.few
        split <;> simp <;> omega
      have hjo : joinOk " " ((wordsOf s).map S) := joinOk_of (n := 7) (k := 11) (fun w h => (hw w h).2.2) hwl (Nat.le_of_eq len_sp) (by decide)
      have hln := lineOf_ok ho
      have k2 := k1 [some (.nd .tup f (stL ss)), some (.nd .lst true (tL ((ts ++ [s]).map lineNl))), some sd, some (.nd .lst true (tL (wordsOf s))), none, none] ⟨_, _, rfl⟩
      have hll := hln.2.2.1
      unfold lineOf at hll
      simp [wpSs, Z.wpS, wpE, wpP, wpPT, wpT, wpEs, wpO, wpOT, wpIt, strs_tL, hjo, join_sp, nl_S]
      refine ⟨by omega, by omega, ?_⟩
      rw [SX.S_cat]
      simpa [lineNl, lineOf] using k2
    · rintro δ ⟨a, b, rfl⟩
      exact ⟨_, rfl, a, b, by rw [List.take_of_length_le (by simp)]⟩
  rintro _ ⟨a, b, rfl⟩
  have hjo : joinOk "" ((ss.map lineNl).map S) := joinOk_of (n := 400) (k := 85) (fun w h => by
    obtain ⟨s, h1, rfl⟩ := List.mem_map.mp h
    have := (lineOf_ok (hs s h1)).2.2.1
    simp [lineNl]; omega) (by simpa using hl) (by rw [len_e]; omega) (by decide)
  have ej : Txt.join "" ((ss.map lineNl).map S) = S (many (ss.map lineOf)) := by
    rw [join_e, ← joinE_many, List.map_map]; rfl
  have e5 := strs_tL (ss.map lineNl)
  generalize ss.map lineNl = xs at *
  simp [wpSs, Z.wpS, wpE, wpP, wpPT, wpT, wpEs, wpO, wpOT, wpIt, e5, hjo, ej]
def ct_ll : Ct := fun ds r o => ∃ ss f, ds = [.nd .tup f (stL ss)] ∧ StOks ss ∧ r = .nd .lst true (tL (ss.map lineOf)) ∧ o = none
theorem l_ll {Γ : Nat → Ct} : ∀ ds r o, ct_ll ds r o → ds.length = 1 ∧ wpSs Γ b_law_lines (startD 5 ds) (retW none r o) := by
  rintro ds r o ⟨ss, f, rfl, ⟨hs, hl⟩, rfl, rfl⟩
  refine ⟨rfl, ?_⟩
  have hB := sizeB
  have h2 := size2
  unfold b_law_lines
  refine cutS (fun δ => δ = [some (.nd .tup f (stL ss)), some (.nd .lst true []), none, none, none]) (by repeat' (first | exact True.intro | (refine pt_spl ?_ ?_) | (refine pt_ninS ?_ ?_) | (refine pt_mulS ?_ ?_) | (refine pt_crp ?_) | (refine pt_ch ?_ ?_ ?_) | (refine pt_kg ?_) | (refine pt_dsp ?_ ?_ ?_ ?_) | (exact pt_mvf) | (refine pt_rplD ?_ ?_ ?_ ?_) | (refine pt_E' ?_) | (exact fun h => nomatch h) | constructor)) (by simp [wpSs, Z.wpS, wpE, wpP, wpPT, wpT, wpEs, wpO, wpOT, wpIt]) ?_
  rintro _ rfl
  refine cutS (fun δ => ∃ a b, δ = [some (.nd .tup f (stL ss)), some (.nd .lst true (tL (ss.map lineOf))), a, b, none]) (by repeat' (first | exact True.intro | (refine pt_spl ?_ ?_) | (refine pt_ninS ?_ ?_) | (refine pt_mulS ?_ ?_) | (refine pt_crp ?_) | (refine pt_ch ?_ ?_ ?_) | (refine pt_kg ?_) | (refine pt_dsp ?_ ?_ ?_ ?_) | (exact pt_mvf) | (refine pt_rplD ?_ ?_ ?_ ?_) | (refine pt_E' ?_) | (exact fun h => nomatch h) | constructor)) ?_ ?_
  · simp only [Z.wpS, wpIt, wpE, wpP]
    refine ⟨_, rfl, fr_stL ss, ?_⟩
    simp only [q_seq_t]
    refine ⟨fr_stL ss, ?_⟩
    refine forW_ix (fun i δ => ∃ a b, δ = [some (.nd .tup f (stL ss)), some (.nd .lst true (tL ((ss.take i).map lineOf))), a, b, none]) _ _ 0 _ ⟨_, _, rfl⟩ ?_ ?_
    · rintro i d δ hd ⟨a, b, rfl⟩ k k1 _ _ _ _
      rw [List.getElem?_map] at hd
      obtain ⟨s, e1, rfl⟩ := Option.map_eq_some_iff.mp hd
      have hi := (List.getElem?_eq_some_iff.mp e1).1
      have ho := hs s (List.mem_of_getElem? e1)
      rw [take_snoc e1] at k1
      rw [Nat.zero_add]
      have htl : (ss.take i).length ≤ 400 := by rw [List.length_take]; omega
      generalize ss.take i = ts at *
      obtain ⟨rest, e2, e3⟩ := stD_0 s
      have hfr := fr_st s
      simp only [q_g_n, List.set_cons_succ, List.set_cons_zero]
      generalize hD : stD s = sd at *
      refine cutS (fun δ => ∃ g, δ = [some (.nd .tup f (stL ss)), some (.nd .lst true (tL (ts.map lineOf))), some sd, some (.nd .tup g (iL ([s.lo, s.hi] ++ if s.dd = true then s.ns else []))), none]) (by repeat' (first | exact True.intro | (refine pt_spl ?_ ?_) | (refine pt_ninS ?_ ?_) | (refine pt_mulS ?_ ?_) | (refine pt_crp ?_) | (refine pt_ch ?_ ?_ ?_) | (refine pt_kg ?_) | (refine pt_dsp ?_ ?_ ?_ ?_) | (exact pt_mvf) | (refine pt_rplD ?_ ?_ ?_ ?_) | (refine pt_E' ?_) | (exact fun h => nomatch h) | constructor)) ?_ ?_
      · simp only [wpSs, Z.wpS, wpE, wpP, wpPT, wpT, wpEs, wpO, wpOT, wpIt]
        by_cases h : s.dd = true
        · have e4 := e3 h
          have := ho.few
          subst e4
          simp [wpSs, Z.wpS, wpE, wpP, wpPT, wpT, wpEs, wpO, wpOT, wpIt, e2, kindT, h, ofS_do]
          omega
        · simp [wpSs, Z.wpS, wpE, wpP, wpPT, wpT, wpEs, wpO, wpOT, wpIt, e2, kindT, h, ofS_do, S_eq, show tAsk ≠ tDo by decide]
          omega
      rintro _ ⟨g, rfl⟩
      have hw := words_ok ho
      have hwl : (wordsOf s).length ≤ 7 := by
        unfold wordsOf
        have := ho.few
        split <;> simp <;> omega
      have hjo : joinOk " " ((wordsOf s).map S) := joinOk_of (n := 7) (k := 11) (fun w h => (hw w h).2.2) hwl (Nat.le_of_eq len_sp) (by decide)
      have hln := lineOf_ok ho
      have k2 := k1 [some (.nd .tup f (stL ss)), some (.nd .lst true (tL ((ts ++ [s]).map lineOf))), some sd, some (.nd .tup g (iL ([s.lo, s.hi] ++ if s.dd = true then s.ns else []))), none] ⟨_, _, rfl⟩
      have hx : ∀ i ∈ ([s.lo, s.hi] ++ if s.dd = true then s.ns else []), i.natAbs < 10 ^ 10 := fun i hi => by
        rcases List.mem_append.mp hi with hi | hi
        · simp at hi; rcases hi with rfl | rfl
          · exact ho.lo
          · exact ho.hi
        · split at hi
          · exact ho.ns i hi
          · simp at hi
      have hxl : ([s.lo, s.hi] ++ if s.dd = true then s.ns else []).length ≤ 5 := by
        have := ho.few
        rw [List.length_append]
        split <;> simp <;> omega
      have hwo : tL (wordsOf s) = tD (kindT s) :: tD s.nm :: tL (([s.lo, s.hi] ++ if s.dd = true then s.ns else []).map intT) := by
        unfold wordsOf kindT
        by_cases h : s.dd = true <;> simp [h, tL]
      generalize ([s.lo, s.hi] ++ if s.dd = true then s.ns else []) = xs at *
      simp [wpSs, Z.wpS, wpE, wpP, wpPT, wpT, wpEs, wpO, wpOT, wpIt, e2, h2]
      refine str_cmp hx (by omega) (fun i hi k hk => ?_) ?_
      · have hlg : i.natAbs.log2 < 1920 := log_of (hx i hi)
        simp [hlg, intS']
        exact hk
      · simp only [List.length_map]
        have hst := strs_tL (wordsOf s)
        rw [hwo] at hst
        simp only [tL, List.map_map] at hst
        simp
        refine ⟨by omega, (wordsOf s).map S, hst, hjo, by omega, ?_⟩
        rw [join_sp]
        simpa [lineOf, e2] using k2
    · rintro δ ⟨a, b, rfl⟩
      exact ⟨_, rfl, a, b, by rw [List.take_of_length_le (by simp)]⟩
  rintro _ ⟨a, b, rfl⟩
  simp [wpSs, Z.wpS, wpE, wpP, wpPT, wpT, wpEs, wpO, wpOT, wpIt]
end K07
set_option Elab.async false
set_option linter.all false
set_option maxRecDepth 100000
set_option autoImplicit false
set_option maxHeartbeats 4000000
namespace K07
open PySem L2 Z
/-! ## what is drawn -/
def tt : Ct := fun _ _ _ => True
abbrev ctB (Γ : Nat → Ct) (b : Ss) (n N : Nat) (mp : Option Nat) : Ct := ctOf Γ b n N mp tt
theorem ctB_ex {Γ : Nat → Ct} {b : Ss} {n N : Nat} {mp : Option Nat} {ds : List D} {ι : Type} {P : ι → Prop} {r : ι → D} {o : ι → Option D} (hb : okSs b) (hl : ds.length = n) (h : wpSs Γ b (startD N ds) (fun out => ∃ i, P i ∧ retW mp (r i) (o i) out)) : ∃ i, P i ∧ ctB Γ b n N mp ds (r i) (o i) := by
  obtain ⟨out, ⟨i, g, q⟩, k⟩ := pt_Ss Γ b hb _ _ h
  exact ⟨i, g, hl, trivial, k _ q⟩
def Gp : Nat → Ct
  | 7 => ct_pick
  | _ => fun _ _ _ => False
def ct_num : Ct := ctB Gp b_law_number 1 2 (some 0)
theorem num_call {t : Tape} (ht : TapeOk t) : ∃ (i : Int) (t' : Tape), i.natAbs < 10 ^ 10 ∧ TapeOk t' ∧ ct_num [tapeD t] (.at (.int i)) (some (tapeD t')) := by
  have key : ∃ p : Int × Tape, (p.1.natAbs < 10 ^ 10 ∧ TapeOk p.2) ∧ ct_num [tapeD t] (.at (.int p.1)) (some (tapeD p.2)) := by
    refine ctB_ex (P := fun p : Int × Tape => p.1.natAbs < 10 ^ 10 ∧ TapeOk p.2) (by unfold b_law_number; exact (by repeat' (first | exact True.intro | (refine pt_spl ?_ ?_) | (refine pt_ninS ?_ ?_) | (refine pt_mulS ?_ ?_) | (refine pt_crp ?_) | (refine pt_ch ?_ ?_ ?_) | (refine pt_kg ?_) | (refine pt_dsp ?_ ?_ ?_ ?_) | (exact pt_mvf) | (refine pt_rplD ?_ ?_ ?_ ?_) | (refine pt_E' ?_) | (exact fun h => nomatch h) | constructor))) rfl ?_
    have h7 : Gp 7 = ct_pick := rfl
    unfold b_law_number
    obtain ⟨k, t1, hk, ht1, hc⟩ := pick_call ht (m := 5) (by decide) (by decide)
    refine cutS (fun δ => δ = [some (tapeD t1), some (.at (.int k))]) (by repeat' (first | exact True.intro | (refine pt_spl ?_ ?_) | (refine pt_ninS ?_ ?_) | (refine pt_mulS ?_ ?_) | (refine pt_crp ?_) | (refine pt_ch ?_ ?_ ?_) | (refine pt_kg ?_) | (refine pt_dsp ?_ ?_ ?_ ?_) | (exact pt_mvf) | (refine pt_rplD ?_ ?_ ?_ ?_) | (refine pt_E' ?_) | (exact fun h => nomatch h) | constructor)) ?_ ?_
    · simp [wpSs, Z.wpS, wpE, wpP, wpPT, wpT, wpEs, wpO, wpOT, wpIt, h7]
      exact ⟨_, _, hc, rfl, rfl⟩
    rintro _ rfl
    by_cases h0 : k = 0
    · subst h0
      obtain ⟨k2, t2, hk2, ht2, hc2⟩ := pick_call ht1 (m := 10) (by decide) (by decide)
      refine cutR (fun _ => False) (by repeat' (first | exact True.intro | (refine pt_spl ?_ ?_) | (refine pt_ninS ?_ ?_) | (refine pt_mulS ?_ ?_) | (refine pt_crp ?_) | (refine pt_ch ?_ ?_ ?_) | (refine pt_kg ?_) | (refine pt_dsp ?_ ?_ ?_ ?_) | (exact pt_mvf) | (refine pt_rplD ?_ ?_ ?_ ?_) | (refine pt_E' ?_) | (exact fun h => nomatch h) | constructor)) ?_ (fun _ h => h.elim)
      simp [wpSs, Z.wpS, wpE, wpP, wpPT, wpT, wpEs, wpO, wpOT, wpIt, h7]
      refine ⟨_, _, hc2, k2, t2, ?_, rfl, rfl⟩
      exact ⟨by omega, ht2⟩
    refine cutS (fun δ => δ = [some (tapeD t1), some (.at (.int k))]) (by repeat' (first | exact True.intro | (refine pt_spl ?_ ?_) | (refine pt_ninS ?_ ?_) | (refine pt_mulS ?_ ?_) | (refine pt_crp ?_) | (refine pt_ch ?_ ?_ ?_) | (refine pt_kg ?_) | (refine pt_dsp ?_ ?_ ?_ ?_) | (exact pt_mvf) | (refine pt_rplD ?_ ?_ ?_ ?_) | (refine pt_E' ?_) | (exact fun h => nomatch h) | constructor)) ?_ ?_
    · simp [wpSs, Z.wpS, wpE, wpP, wpPT, wpT, wpEs, wpO, wpOT, wpIt, h0]
    rintro _ rfl
    by_cases h1 : k = 1
    · subst h1
      obtain ⟨k2, t2, hk2, ht2, hc2⟩ := pick_call ht1 (m := 10 ^ 9 + 1) (by decide) (by decide)
      have hp : CPow 10 9 := ⟨by decide, by decide, by decide⟩
      refine cutR (fun _ => False) (by repeat' (first | exact True.intro | (refine pt_spl ?_ ?_) | (refine pt_ninS ?_ ?_) | (refine pt_mulS ?_ ?_) | (refine pt_crp ?_) | (refine pt_ch ?_ ?_ ?_) | (refine pt_kg ?_) | (refine pt_dsp ?_ ?_ ?_ ?_) | (exact pt_mvf) | (refine pt_rplD ?_ ?_ ?_ ?_) | (refine pt_E' ?_) | (exact fun h => nomatch h) | constructor)) ?_ (fun _ h => h.elim)
      simp [wpSs, Z.wpS, wpE, wpP, wpPT, wpT, wpEs, wpO, wpOT, wpIt, h7, hp]
      refine ⟨_, _, hc2, ?_⟩
      simp
      exact ⟨_, t2, ⟨by omega, ht2⟩, rfl, rfl⟩
    refine cutS (fun δ => δ = [some (tapeD t1), some (.at (.int k))]) (by repeat' (first | exact True.intro | (refine pt_spl ?_ ?_) | (refine pt_ninS ?_ ?_) | (refine pt_mulS ?_ ?_) | (refine pt_crp ?_) | (refine pt_ch ?_ ?_ ?_) | (refine pt_kg ?_) | (refine pt_dsp ?_ ?_ ?_ ?_) | (exact pt_mvf) | (refine pt_rplD ?_ ?_ ?_ ?_) | (refine pt_E' ?_) | (exact fun h => nomatch h) | constructor)) ?_ ?_
    · have : ¬ (k : Int) = 1 := by omega
      simp [wpSs, Z.wpS, wpE, wpP, wpPT, wpT, wpEs, wpO, wpOT, wpIt, this]
    rintro _ rfl
    have hp : CPow 10 9 := ⟨by decide, by decide, by decide⟩
    obtain ⟨k2, t2, hk2, ht2, hc2⟩ := pick_call ht1 (m := 10 ^ 9) (by decide) (by decide)
    obtain ⟨k3, t3, hk3, ht3, hc3⟩ := pick_call ht2 (m := 3) (by decide) (by decide)
    simp [wpSs, Z.wpS, wpE, wpP, wpPT, wpT, wpEs, wpO, wpOT, wpIt, h7, hp, size3]
    refine ⟨_, _, hc2, ?_⟩
    simp
    refine ⟨_, _, hc3, ?_⟩
    have hk3 : k3 = 0 ∨ k3 = 1 ∨ k3 = 2 := by omega
    rcases hk3 with rfl | rfl | rfl
    · simp
      exact ⟨_, t3, ⟨by decide, ht3⟩, rfl, rfl⟩
    · simp
      exact ⟨_, t3, ⟨by decide, ht3⟩, rfl, rfl⟩
    · simp
      exact ⟨_, t3, ⟨by omega, ht3⟩, rfl, rfl⟩
  obtain ⟨⟨i, t'⟩, ⟨h1, h2⟩, h⟩ := key
  exact ⟨i, t', h1, h2, h⟩
def G2 : Nat → Ct
  | 7 => ct_pick
  | 14 => ct_num
  | _ => fun _ _ _ => False
def ct_drawn : Ct := ctB G2 b_law_drawn 1 7 (some 0)
def namesL : List Tx := [[97, 100, 100], [115, 99, 97, 108, 101], [120], [113], [116, 119, 105, 115, 116], [108, 111, 110, 103, 119, 111, 114, 100]]
theorem names_ok : ∀ n ∈ namesL, 32 ∉ n ∧ 10 ∉ n ∧ n ≠ [] ∧ n.length ≤ 8 := by decide
theorem names_D : [D.at (.str "add"), .at (.str "scale"), .at (.str "x"), .at (.str "q"), .at (.str "twist"), .at (.str "longword")] = tL namesL := by
  simp only [ofS_eq]
  rfl
theorem names_at {k : Nat} (h : k < 6) : ∃ nm, atI (tL namesL) (k : Int) = some (tD nm) ∧ nm ∈ namesL := by
  have hk : k < namesL.length := h
  refine ⟨namesL[k], atI_nat (by rw [List.getElem?_map, List.getElem?_eq_getElem hk]; rfl), List.getElem_mem hk⟩
theorem drawn_call {t : Tape} (ht : TapeOk t) : ∃ (ss : List St) (t' : Tape), ((∀ s ∈ ss, StOk s) ∧ ss.length ≤ 12) ∧ TapeOk t' ∧ ct_drawn [tapeD t] (.nd .tup true (stL ss)) (some (tapeD t')) := by
  have key : ∃ p : List St × Tape, (((∀ s ∈ p.1, StOk s) ∧ p.1.length ≤ 12) ∧ TapeOk p.2) ∧ ct_drawn [tapeD t] (.nd .tup true (stL p.1)) (some (tapeD p.2)) := by
    refine ctB_ex (P := fun p : List St × Tape => ((∀ s ∈ p.1, StOk s) ∧ p.1.length ≤ 12) ∧ TapeOk p.2) (by unfold b_law_drawn; exact (by repeat' (first | exact True.intro | (refine pt_spl ?_ ?_) | (refine pt_ninS ?_ ?_) | (refine pt_mulS ?_ ?_) | (refine pt_crp ?_) | (refine pt_ch ?_ ?_ ?_) | (refine pt_kg ?_) | (refine pt_dsp ?_ ?_ ?_ ?_) | (exact pt_mvf) | (refine pt_rplD ?_ ?_ ?_ ?_) | (refine pt_E' ?_) | (exact fun h => nomatch h) | constructor))) rfl ?_
    have h7 : G2 7 = ct_pick := rfl
    have h14 : G2 14 = ct_num := rfl
    have hB := sizeB
    have z2 := size2
    have z3 := size3
    unfold b_law_drawn
    refine cutS (fun δ => δ = [some (tapeD t), some (.nd .tup false (tL namesL)), none, none, none, none, none]) (by repeat' (first | exact True.intro | (refine pt_spl ?_ ?_) | (refine pt_ninS ?_ ?_) | (refine pt_mulS ?_ ?_) | (refine pt_crp ?_) | (refine pt_ch ?_ ?_ ?_) | (refine pt_kg ?_) | (refine pt_dsp ?_ ?_ ?_ ?_) | (exact pt_mvf) | (refine pt_rplD ?_ ?_ ?_ ?_) | (refine pt_E' ?_) | (exact fun h => nomatch h) | constructor)) ?_ ?_
    · have : namesL.length = 6 := rfl
      simp [wpSs, Z.wpS, wpE, wpP, wpPT, wpT, wpEs, wpO, wpOT, wpIt, names_D]
      omega
    rintro _ rfl
    refine cutS (fun δ => δ = [some (tapeD t), some (.nd .tup false (tL namesL)), some (.nd .lst true []), none, none, none, none]) (by repeat' (first | exact True.intro | (refine pt_spl ?_ ?_) | (refine pt_ninS ?_ ?_) | (refine pt_mulS ?_ ?_) | (refine pt_crp ?_) | (refine pt_ch ?_ ?_ ?_) | (refine pt_kg ?_) | (refine pt_dsp ?_ ?_ ?_ ?_) | (exact pt_mvf) | (refine pt_rplD ?_ ?_ ?_ ?_) | (refine pt_E' ?_) | (exact fun h => nomatch h) | constructor)) (by simp [wpSs, Z.wpS, wpE, wpP, wpPT, wpT, wpEs, wpO, wpOT, wpIt]) ?_
    rintro _ rfl
    refine cutS (fun δ => ∃ ss t' a b c, δ = [some (tapeD t'), some (.nd .tup false (tL namesL)), some (.nd .lst true (stL ss)), a, b, c, none] ∧ (∀ s ∈ ss, StOk s) ∧ ss.length ≤ 12 ∧ TapeOk t') (by repeat' (first | exact True.intro | (refine pt_spl ?_ ?_) | (refine pt_ninS ?_ ?_) | (refine pt_mulS ?_ ?_) | (refine pt_crp ?_) | (refine pt_ch ?_ ?_ ?_) | (refine pt_kg ?_) | (refine pt_dsp ?_ ?_ ?_ ?_) | (exact pt_mvf) | (refine pt_rplD ?_ ?_ ?_ ?_) | (refine pt_E' ?_) | (exact fun h => nomatch h) | constructor)) ?_ ?_
    · obtain ⟨m, t1, hm, ht1, hc⟩ := pick_call ht (m := 13) (by decide) (by decide)
      simp [wpSs, Z.wpS, wpE, wpP, wpPT, wpT, wpEs, wpO, wpOT, wpIt, h7]
      refine ⟨_, _, hc, m, rfl, by omega, by omega, ?_⟩
      refine forW_ix (fun i δ => ∃ ss t' a b c, δ = [some (tapeD t'), some (.nd .tup false (tL namesL)), some (.nd .lst true (stL ss)), a, b, c, none] ∧ (∀ s ∈ ss, StOk s) ∧ ss.length ≤ i ∧ TapeOk t') _ _ 0 _ ⟨[], t1, _, _, _, rfl, by simp, by simp, ht1⟩ ?_ ?_
      · rintro i d δ hd ⟨ss, t2, a, b, c, rfl, hs, hl, ht2⟩ k k1 _ _ _ _
        have hi := (List.getElem?_eq_some_iff.mp hd).1
        simp at hi
        rw [Nat.zero_add] at hl
        obtain ⟨lo, t3, hlo, ht3, hc3⟩ := pick_call ht2 (m := 60) (by decide) (by decide)
        obtain ⟨w, t4, hw, ht4, hc4⟩ := pick_call ht3 (m := 5) (by decide) (by decide)
        obtain ⟨p, t5, hp, ht5, hc5⟩ := pick_call ht4 (m := 2) (by decide) (by decide)
        obtain ⟨q, t6, hq, ht6, hc6⟩ := pick_call ht5 (m := 6) (by decide) (by decide)
        obtain ⟨nm, hat, hnm⟩ := names_at (k := q) (by omega)
        have hno := names_ok nm hnm
        have hsl : ss.length < sizeLine := by omega
        simp [h7]
        refine ⟨_, _, hc3, ?_⟩
        simp [z2]
        refine ⟨_, _, hc4, ?_⟩
        simp
        refine ⟨_, _, hc5, ?_⟩
        simp
        by_cases h0 : p = 0
        · subst h0
          simp
          refine ⟨_, _, hc6, ?_⟩
          simp [hat, z3, hsl]
          have e : stL ss ++ [.nd .tup false [.at (.str "ask"), tD nm, .nd .tup false [.at (.int lo), .at (.int (lo + w))]]] = stL (ss ++ [⟨false, nm, lo, lo + w, []⟩]) := by simp [stL, stD]
          rw [e]
          refine k1 _ ⟨_, t6, _, _, _, rfl, fun s hs2 => ?_, ?_, ht6⟩
          · rcases List.mem_append.mp hs2 with h | h
            · exact hs s h
            · simp at h; subst h
              exact ⟨hno, by show (lo : Int).natAbs < _; omega, by show ((lo : Int) + w).natAbs < _; omega, by simp, by simp, fun _ => rfl⟩
          · simp; omega
        · skip
          rw [if_neg h0]
          refine ⟨_, _, hc6, ?_⟩
          obtain ⟨r, t7, hr, ht7, hc7⟩ := pick_call ht6 (m := 4) (by decide) (by decide)
          simp [hat]
          refine ⟨_, _, hc7, r, rfl, by omega, by omega, ?_⟩
          refine forC_inv (fun n acc δ => ∃ xs t', acc = iL xs ∧ xs.length = n ∧ (∀ i ∈ xs, i.natAbs < 10 ^ 10) ∧ TapeOk t' ∧ δ = [some (tapeD t'), some (.nd .tup false (tL namesL)), some (.nd .lst true (stL ss)), some d, some (.at (.int lo)), some (.nd .tup false [.at (.int lo), .at (.int (lo + w))]), none]) _ 0 [] _ _ ⟨[], t7, rfl, rfl, by simp, ht7, rfl⟩ (by simp; omega) ?_ ?_
          · rintro e he n acc δ ⟨xs, t8, rfl, hxl, hx, ht8, rfl⟩ kk kk1 _
            obtain ⟨i, t9, hi9, ht9, hc9⟩ := num_call ht8
            simp [h14]
            refine ⟨_, _, hc9, ?_⟩
            have := kk1 (.at (.int i)) [some (tapeD t9), some (.nd .tup false (tL namesL)), some (.nd .lst true (stL ss)), some d, some (.at (.int lo)), some (.nd .tup false [.at (.int lo), .at (.int (lo + w))]), none] ⟨xs ++ [i], t9, by simp [iL], by simp [hxl], fun j hj => ?_, ht9, rfl⟩
            · simpa using this
            · rcases List.mem_append.mp hj with h | h
              · exact hx j h
              · simp at h; subst h; exact hi9
          · rintro acc δ ⟨xs, t8, rfl, hxl, hx, ht8, rfl⟩
            have hxl2 : xs.length ≤ 3 := by simp at hxl; omega
            have e : stL ss ++ [.nd .tup false [.at (.str "do"), tD nm, .nd .tup false [.at (.int lo), .at (.int (lo + w))], .nd .tup false (iL xs)]] = stL (ss ++ [⟨true, nm, lo, lo + w, xs⟩]) := by simp [stL, stD]
            simp [hsl]
            rw [e]
            refine ⟨by omega, k1 _ ⟨_, t8, _, _, _, rfl, fun s hs2 => ?_, ?_, ht8⟩⟩
            · rcases List.mem_append.mp hs2 with h | h
              · exact hs s h
              · simp at h; subst h
                exact ⟨hno, by show (lo : Int).natAbs < _; omega, by show ((lo : Int) + w).natAbs < _; omega, hx, hxl2, fun h => by cases h⟩
            · simp; omega
      · rintro δ ⟨ss, t', a, b, c, rfl, hs, hl, ht'⟩
        simp at hl
        exact ⟨_, rfl, ss, t', ⟨a, b, c, rfl⟩, hs, by omega, ht'⟩
    rintro _ ⟨ss, t', a, b, c, rfl, hs, hl, ht'⟩
    simp [wpSs, Z.wpS, wpE, wpP, wpPT, wpT, wpEs, wpO, wpOT, wpIt, fr_stL]
    exact ⟨ss, t', ⟨⟨hs, hl⟩, ht'⟩, rfl, rfl⟩
  obtain ⟨⟨ss, t'⟩, ⟨h1, h2⟩, h⟩ := key
  exact ⟨ss, t', h1, h2, h⟩
end K07
set_option Elab.async false
set_option linter.all false
set_option maxRecDepth 100000
set_option autoImplicit false
set_option maxHeartbeats 4000000
namespace K07
open PySem L2 Z
/-! ## loosely written -/
theorem sp_S : (" " : Str) = S [32] := ofS_eq " "
@[simp] theorem S_cat2 (a b : Tx) : S a ++ S b = S (a ++ b) := SX.S_cat a b
theorem rep_S (l : Tx) (n : Int) : repS (S l) n = S (List.replicate n.toNat l).flatten := rfl
theorem rep_sp (n : Int) : repS (" " : Str) n = S (sp n.toNat) := by
  rw [sp_S, rep_S]
  congr 1
  unfold sp
  induction n.toNat with
  | zero => rfl
  | succ k ih => rw [List.replicate_succ, List.flatten_cons, ih, List.replicate_succ]; rfl
theorem cut_line {s : St} (h : StOk s) : cut 32 (lineOf s) = wordsOf s := by
  unfold cut lineOf
  exact SX.spl_join (by unfold wordsOf; simp) fun p hp => (words_ok h p hp).1.1
theorem replace_line {s : St} (h : StOk s) (n : Nat) : Txt.replace (S (lineOf s)) " " (S (sp n)) = S (TL.joinL (sp n) (wordsOf s)) := by
  have e := StrLaws.replace_one (S (lineOf s)) (S (sp n)) 32
  rw [show (" " : Str) = ⟨#[32]⟩ from sp_S, e, show (⟨#[32]⟩ : Str) = " " from sp_S.symm, split_sp, cut_line h, ← TL.join_eq, SX.join_S]
def looseL (a n b : Nat) (s : St) : Tx := sp a ++ TL.joinL (sp (n + 1)) (wordsOf s) ++ sp b
theorem sp_nl (n : Nat) : 10 ∉ sp n := by unfold sp; intro h; have := List.eq_of_mem_replicate h; omega
theorem looseL_ok {s : St} (h : StOk s) {a n b : Nat} (ha : a ≤ 1) (hn : n ≤ 2) (hb : b ≤ 1) : Loose s (looseL a n b s) ∧ (looseL a n b s).length ≤ 100 := by
  have hw := words_ok h
  have hwl : (wordsOf s).length ≤ 7 := by
    unfold wordsOf
    have := h.few
    split <;> simp <;> omega
  have hj := join_len (S := sp (n + 1)) (k := 11) (ps := wordsOf s) fun q hq => (hw q hq).2.2
  have hlen : (looseL a n b s).length ≤ 100 := by
    unfold looseL
    simp only [List.length_append]
    simp only [show ∀ k, (sp k).length = k from fun k => List.length_replicate] at *
    have : (wordsOf s).length * (11 + (n + 1)) ≤ 7 * 14 := Nat.mul_le_mul hwl (by omega)
    omega
  refine ⟨⟨?_, ?_, by omega⟩, hlen⟩
  · unfold looseL
    rw [wd_spR, wd_spL, wd_join n _ fun p hp => (hw p hp).1]
  · unfold looseL
    simp only [List.mem_append, not_or]
    exact ⟨⟨sp_nl a, join_mem (p := []) (fun q hq => (hw q hq).2.1) (sp_nl _)⟩, sp_nl b⟩
theorem many_len {k : Nat} : ∀ {ls : List Tx}, (∀ l ∈ ls, l.length ≤ k) → (many ls).length ≤ ls.length * (k + 1)
  | [], _ => by simp [many]
  | l :: ls, h => by
    have := h l List.mem_cons_self
    have := many_len (k := k) (ls := ls) fun z hz => h z (List.mem_cons_of_mem _ hz)
    simp only [many, List.length_append, List.length_cons, Nat.succ_mul]
    omega
def blanksL : List Tx := [[35, 32, 100, 111], [], [32, 32, 32], [35]]
theorem blanks_ok : ∀ l ∈ blanksL, passes (wd l) = true ∧ 10 ∉ l ∧ l.length ≤ 4 := by decide +kernel
theorem blanks_D : [D.at (.str "# do"), .at (.str ""), .at (.str "   "), .at (.str "#")] = tL blanksL := by
  simp only [ofS_eq]; rfl
theorem blanks_at {k : Nat} (h : k < 4) : ∃ l, atI (tL blanksL) (k : Int) = some (tD l) ∧ l ∈ blanksL := by
  have hk : k < blanksL.length := h
  exact ⟨blanksL[k], atI_nat (by rw [List.getElem?_map, List.getElem?_eq_getElem hk]; rfl), List.getElem_mem hk⟩
theorem wp_pvv {Γ : Nat → Ct} {i : Nat} {δ : Z.Env} {Q : D → Z.Env → Prop} : wpE Γ (.pv (.var i)) δ Q = ∃ d, (∃ e, δ[i]? = some (some e) ∧ e = d) ∧ d.froz = true ∧ Q d δ := propext ⟨fun ⟨d, e, h1, h2⟩ => ⟨d, ⟨d, e, rfl⟩, h1, h2⟩, fun ⟨d, ⟨e, h1, h2⟩, h3, h4⟩ => by subst h2; exact ⟨e, h1, h3, h4⟩⟩
def ct_loose : Ct := ctB Gp (b_law_loose Gp) 2 4 (some 0)
structure LInv (ss : List St) (i : Nat) (LL : List Tx) : Prop where
  tell : Tell LL (ss.take i)
  few : LL.length ≤ 2 * i
  len : ∀ l ∈ LL, l.length ≤ 100
theorem loose_call {t : Tape} {ss : List St} (ht : TapeOk t) (hs : ∀ s ∈ ss, StOk s) (hl : ss.length ≤ 12) : ∃ (x : Tx) (t' : Tape), (x.length ≤ BIG ∧ Tell (ln x) ss ∧ (ln x).length ≤ 400) ∧ TapeOk t' ∧ ct_loose [tapeD t, .nd .lst false (tL (ss.map lineOf))] (tD x) (some (tapeD t')) := by
  have key : ∃ p : Tx × Tape, ((p.1.length ≤ BIG ∧ Tell (ln p.1) ss ∧ (ln p.1).length ≤ 400) ∧ TapeOk p.2) ∧ ct_loose [tapeD t, .nd .lst false (tL (ss.map lineOf))] (tD p.1) (some (tapeD p.2)) := by
    refine ctB_ex (P := fun p : Tx × Tape => (p.1.length ≤ BIG ∧ Tell (ln p.1) ss ∧ (ln p.1).length ≤ 400) ∧ TapeOk p.2) (by unfold b_law_loose; exact (by repeat' (first | exact True.intro | (refine pt_spl ?_ ?_) | (refine pt_ninS ?_ ?_) | (refine pt_mulS ?_ ?_) | (refine pt_crp ?_) | (refine pt_ch ?_ ?_ ?_) | (refine pt_kg ?_) | (refine pt_dsp ?_ ?_ ?_ ?_) | (exact pt_mvf) | (refine pt_rplD ?_ ?_ ?_ ?_) | (refine pt_E' ?_) | (exact fun h => nomatch h) | constructor))) rfl ?_
    have h7 : Gp 7 = ct_pick := rfl
    have hB := sizeB
    have z2 := size2
    have z3 := size3
    have hBIG : BIG = 200000 := rfl
    unfold b_law_loose
    refine cutS (fun δ => δ = [some (tapeD t), some (.nd .lst false (tL (ss.map lineOf))), some (tD []), none]) (by repeat' (first | exact True.intro | (refine pt_spl ?_ ?_) | (refine pt_ninS ?_ ?_) | (refine pt_mulS ?_ ?_) | (refine pt_crp ?_) | (refine pt_ch ?_ ?_ ?_) | (refine pt_kg ?_) | (refine pt_dsp ?_ ?_ ?_ ?_) | (exact pt_mvf) | (refine pt_rplD ?_ ?_ ?_ ?_) | (refine pt_E' ?_) | (exact fun h => nomatch h) | constructor)) (by simp [wpSs, Z.wpS, wpE, wpP, wpPT, wpT, wpEs, wpO, wpOT, wpIt, empty_S]) ?_
    rintro _ rfl
    refine cutS (fun δ => ∃ LL t' a, δ = [some (tapeD t'), some (.nd .lst false (tL (ss.map lineOf))), some (tD (many LL)), a] ∧ LInv ss ss.length LL ∧ TapeOk t') (by repeat' (first | exact True.intro | (refine pt_spl ?_ ?_) | (refine pt_ninS ?_ ?_) | (refine pt_mulS ?_ ?_) | (refine pt_crp ?_) | (refine pt_ch ?_ ?_ ?_) | (refine pt_kg ?_) | (refine pt_dsp ?_ ?_ ?_ ?_) | (exact pt_mvf) | (refine pt_rplD ?_ ?_ ?_ ?_) | (refine pt_E' ?_) | (exact fun h => nomatch h) | constructor)) ?_ ?_
    · simp only [Z.wpS, wpIt, wp_pvv]
      refine ⟨_, ⟨_, rfl, rfl⟩, fr_tL _, ?_⟩
      simp only [q_seq_l]
      refine ⟨fr_tL _, ?_⟩
      refine forW_ix (fun i δ => ∃ LL t' a, δ = [some (tapeD t'), some (.nd .lst false (tL (ss.map lineOf))), some (tD (many LL)), a] ∧ LInv ss i LL ∧ TapeOk t') _ _ 0 _ ⟨[], t, _, rfl, ⟨.nil, by simp, by simp⟩, ht⟩ ?_ ?_
      · rintro i d δ hd ⟨LL, t', a, rfl, hI, ht'⟩ k k1 _ _ _ _
        rw [List.getElem?_map, List.getElem?_map] at hd
        obtain ⟨w, e1, rfl⟩ := Option.map_eq_some_iff.mp hd
        obtain ⟨s, e2, rfl⟩ := Option.map_eq_some_iff.mp e1
        have hi := (List.getElem?_eq_some_iff.mp e2).1
        have ho := hs s (List.mem_of_getElem? e2)
        rw [Nat.zero_add] at hI
        simp only [q_g_n, List.set_cons_succ, List.set_cons_zero]
        refine cutS (fun δ => ∃ LL t', δ = [some (tapeD t'), some (.nd .lst false (tL (ss.map lineOf))), some (tD (many LL)), some (tD (lineOf s))] ∧ Tell LL (ss.take i) ∧ LL.length ≤ 2 * i + 1 ∧ (∀ l ∈ LL, l.length ≤ 100) ∧ TapeOk t') (by repeat' (first | exact True.intro | (refine pt_spl ?_ ?_) | (refine pt_ninS ?_ ?_) | (refine pt_mulS ?_ ?_) | (refine pt_crp ?_) | (refine pt_ch ?_ ?_ ?_) | (refine pt_kg ?_) | (refine pt_dsp ?_ ?_ ?_ ?_) | (exact pt_mvf) | (refine pt_rplD ?_ ?_ ?_ ?_) | (refine pt_E' ?_) | (exact fun h => nomatch h) | constructor)) ?_ ?_
        · obtain ⟨c, t1, hc, ht1, hp1⟩ := pick_call ht' (m := 5) (by decide) (by decide)
          have hml := many_len hI.len
          have hf := hI.few
          have hml2 : LL.length * (100 + 1) ≤ 24 * 101 := Nat.mul_le_mul (by omega) (Nat.le_refl _)
          simp [wpSs, Z.wpS, wpE, wpP, wpPT, wpT, wpEs, wpO, wpOT, wpIt, h7]
          refine ⟨_, _, hp1, ?_⟩
          by_cases h0 : c = 0
          · subst h0
            obtain ⟨q, t2, hq, ht2, hp2⟩ := pick_call ht1 (m := 4) (by decide) (by decide)
            obtain ⟨bl, hat, hbl⟩ := blanks_at (k := q) (by omega)
            have hbo := blanks_ok bl hbl
            simp [blanks_D]
            refine ⟨by omega, _, _, hp2, ?_⟩
            simp only [q_idx_t]
            refine ⟨_, hat, rfl, ?_⟩
            have hbl4 := hbo.2.2
            simp [nl_S]
            refine ⟨by omega, by omega, LL ++ [bl], t2, ⟨rfl, ?_⟩, ?_, by simp; omega, ?_, ht2⟩
            · rw [many_app]; simp [many]
            · have := tell_app hI.tell (Tell.blank ⟨hbo.1, hbo.2.1, by omega⟩ Tell.nil)
              simpa using this
            · intro l hl
              rcases List.mem_append.mp hl with h | h
              · exact hI.len l h
              · simp at h; subst h; omega
          · simp [h0]
            exact ⟨LL, t1, ⟨rfl, rfl⟩, hI.tell, by omega, hI.len, ht1⟩
        rintro _ ⟨LL, t2, rfl, hT, hf, hlen, ht2⟩
        obtain ⟨a1, t3, ha1, ht3, hp3⟩ := pick_call ht2 (m := 2) (by decide) (by decide)
        obtain ⟨n1, t4, hn1, ht4, hp4⟩ := pick_call ht3 (m := 3) (by decide) (by decide)
        obtain ⟨b1, t5, hb1, ht5, hp5⟩ := pick_call ht4 (m := 2) (by decide) (by decide)
        have hml := many_len hlen
        have hml2 : LL.length * (100 + 1) ≤ 25 * 101 := Nat.mul_le_mul (by omega) (Nat.le_refl _)
        have hlo := looseL_ok ho (a := a1) (n := n1) (b := b1) (by omega) (by omega) (by omega)
        have hlL := lineOf_ok ho
        have hrp : repS " " (1 + (n1 : Int)) = S (sp (n1 + 1)) := by rw [rep_sp]; congr 2; omega
        have hra : repS " " (a1 : Int) = S (sp a1) := by rw [rep_sp]; rfl
        have hrb : repS " " (b1 : Int) = S (sp b1) := by rw [rep_sp]; rfl
        have hspl : ∀ k, (sp k).length = k := fun k => List.length_replicate
        have hll : (looseL a1 n1 b1 s).length = a1 + (TL.joinL (sp (n1 + 1)) (wordsOf s)).length + b1 := by simp [looseL, hspl]; omega
        have hls1 : (lineOf s).length ≤ 84 := hlL.2.2.1
        have hls2 : (lineOf s).length + ((lineOf s).length + 1) * (n1 + 1) ≤ 16777216 := by
          have : ((lineOf s).length + 1) * (n1 + 1) ≤ 85 * 4 := Nat.mul_le_mul (by omega) (by omega)
          omega
        refine cutS (fun δ => ∃ LL t', δ = [some (tapeD t'), some (.nd .lst false (tL (ss.map lineOf))), some (tD (many LL)), some (tD (lineOf s))] ∧ LInv ss (i + 1) LL ∧ TapeOk t') (by repeat' (first | exact True.intro | (refine pt_spl ?_ ?_) | (refine pt_ninS ?_ ?_) | (refine pt_mulS ?_ ?_) | (refine pt_crp ?_) | (refine pt_ch ?_ ?_ ?_) | (refine pt_kg ?_) | (refine pt_dsp ?_ ?_ ?_ ?_) | (exact pt_mvf) | (refine pt_rplD ?_ ?_ ?_ ?_) | (refine pt_E' ?_) | (exact fun h => nomatch h) | constructor)) ?_ ?_
        · simp [wpSs, Z.wpS, wpE, wpP, wpPT, wpT, wpEs, wpO, wpOT, wpIt, h7, rplDW]
          refine ⟨_, _, hp3, a1, rfl, by omega, by omega, ?_, ?_, _, _, hp4, ?_⟩
          · show 1 * _ ≤ _; omega
          · rw [hra]; simp [hspl]; omega
          simp
          refine ⟨by omega, by omega, ?_, ?_, ?_, _, _, hp5, ?_⟩
          · show 1 * _ ≤ _; omega
          · rw [hrp, S_len', hspl]; exact hls2
          · rw [hrp, hra, replace_line ho]; simp [hspl]; omega
          simp [hrp, hra, hrb, replace_line ho, nl_S, hspl]
          have hl1 : (" " : Str).length * b1 ≤ 16777216 := by show 1 * _ ≤ _; omega
          refine ⟨by omega, hl1, by omega, by omega, LL ++ [looseL a1 n1 b1 s], t5, ⟨rfl, ?_⟩, ⟨?_, by simp; omega, ?_⟩, ht5⟩
          · rw [many_app]; simp [many, looseL]
          · rw [List.take_add_one, e2]
            have := tell_app hT (Tell.stp ho hlo.1 Tell.nil)
            simpa using this
          · intro l hl
            rcases List.mem_append.mp hl with h | h
            · exact hlen l h
            · simp at h; subst h; exact hlo.2
        rintro _ ⟨LL, t6, rfl, hI6, ht6⟩
        rw [Nat.zero_add] at k1
        exact k1 _ ⟨LL, t6, _, rfl, hI6, ht6⟩
      · rintro δ ⟨LL, t', a, rfl, hI, ht'⟩
        exact ⟨_, rfl, LL, t', a, rfl, by simpa using hI, ht'⟩
    rintro _ ⟨LL, t', a, rfl, hI, ht'⟩
    obtain ⟨q, t2, hq, ht2, hp2⟩ := pick_call ht' (m := 3) (by decide) (by decide)
    have hT := hI.tell
    rw [List.take_of_length_le (Nat.le_refl _)] at hT
    have hml := many_len hI.len
    have hf := hI.few
    have hml2 : LL.length * (100 + 1) ≤ 24 * 101 := Nat.mul_le_mul (by omega) (Nat.le_refl _)
    have hnl := tell_nl hT
    simp [wpSs, Z.wpS, wpE, wpP, wpPT, wpT, wpEs, wpO, wpOT, wpIt, h7, z3, nl_S, empty_S, show ("#" : Str) = S [35] from ofS_eq "#"]
    refine ⟨_, _, hp2, ?_⟩
    have hq3 : q = 0 ∨ q = 1 ∨ q = 2 := by omega
    rcases hq3 with rfl | rfl | rfl
    · simp
      refine ⟨by omega, many LL, t2, ⟨⟨by omega, by rw [ln_many hnl]; exact hT, by rw [ln_many hnl]; omega⟩, ht2⟩, rfl, rfl⟩
    · have e := ln_last (e := [35]) hnl (by decide) (by decide)
      simp
      refine ⟨by omega, many LL ++ [35], t2, ⟨⟨by simp; omega, ?_, by rw [e]; simp; omega⟩, ht2⟩, rfl, rfl⟩
      · rw [e]
        have := tell_app hT (Tell.blank (l := [35]) ⟨by decide +kernel, by decide, by decide⟩ Tell.nil)
        simpa using this
    · have e0 : many LL ++ [10] = many (LL ++ [[]]) := by rw [many_app]; rfl
      have hnl2 : ∀ l ∈ LL ++ [[]], 10 ∉ l := fun l h => by
        rcases List.mem_append.mp h with h | h
        · exact hnl l h
        · simp at h; subst h; simp
      simp
      refine ⟨by omega, many LL ++ [10], t2, ⟨⟨by simp; omega, ?_, by rw [e0, ln_many hnl2]; simp; omega⟩, ht2⟩, rfl, rfl⟩
      · rw [e0, ln_many hnl2]
        have := tell_app hT (Tell.blank (l := []) ⟨rfl, by simp, by simp⟩ Tell.nil)
        simpa using this
  obtain ⟨⟨ss, t'⟩, ⟨h1, h2⟩, h⟩ := key
  exact ⟨ss, t', h1, h2, h⟩
end K07
set_option Elab.async false
set_option linter.all false
set_option maxRecDepth 100000
set_option autoImplicit false
set_option maxHeartbeats 4000000
namespace K07
open PySem L2 Z
/-! ## spoilt -/
def wt : List Tx → Nat
  | [] => 0
  | l :: ls => l.length + 1 + wt ls
theorem wt_app : ∀ a b : List Tx, wt (a ++ b) = wt a + wt b
  | [], b => by simp [wt]
  | l :: a, b => by simp only [List.cons_append, wt, wt_app a b]; omega
theorem wt_mem : ∀ {ls : List Tx} {l : Tx}, l ∈ ls → l.length + 1 ≤ wt ls
  | x :: ls, l, h => by
    rcases List.mem_cons.mp h with rfl | h
    · simp only [wt]; omega
    · have := wt_mem h; simp only [wt]; omega
theorem wt_len : ∀ ls : List Tx, ls.length ≤ wt ls
  | [] => Nat.le_refl _
  | l :: ls => by have := wt_len ls; simp only [wt, List.length_cons]; omega
theorem wt_take : ∀ (ls : List Tx) (k : Nat), wt (ls.take k) + wt (ls.drop k) = wt ls
  | [], k => by simp [wt]
  | l :: ls, 0 => by simp [wt]
  | l :: ls, k + 1 => by have := wt_take ls k; simp only [List.take_succ_cons, List.drop_succ_cons, wt]; omega
theorem wt_drop (ls : List Tx) (k : Nat) : wt (ls.drop (k + 1)) ≤ wt (ls.drop k) := by
  rw [← List.tail_drop]
  cases ls.drop k with
  | nil => simp [wt]
  | cons a b => simp only [List.tail_cons, wt]; omega
theorem wt_set : ∀ (ls : List Tx) (k : Nat) (x : Tx), wt (ls.set k x) ≤ wt ls + (x.length + 1)
  | [], k, x => by simp [wt]
  | l :: ls, 0, x => by simp only [List.set_cons_zero, wt]; omega
  | l :: ls, k + 1, x => by have := wt_set ls k x; simp only [List.set_cons_succ, wt]; omega
theorem wt_erase : ∀ (ls : List Tx) (k : Nat), wt (ls.eraseIdx k) ≤ wt ls
  | [], k => by simp
  | l :: ls, 0 => by simp only [List.eraseIdx_cons_zero, wt]; omega
  | l :: ls, k + 1 => by have := wt_erase ls k; simp only [List.eraseIdx_cons_succ, wt]; omega
theorem wt_cut (c : Nat) (t : Tx) : wt (cut c t) = t.length + 1 := by
  have : ∀ (t acc : Tx), wt (TL.spl [c] 0 acc t) = acc.length + t.length + 1 := by
    intro t
    induction t with
    | nil => intro acc; rw [TL.spl_nil]; simp [wt]
    | cons x t ih =>
      intro acc
      by_cases e : x = c
      · subst e; rw [spl_hit1]; simp only [wt, ih]; simp; omega
      · rw [spl_miss1 e, ih]; simp; omega
  unfold cut
  simpa using this t []
theorem joinL_wt (c : Nat) : ∀ ws : List Tx, (TL.joinL [c] ws).length ≤ wt ws
  | [] => by simp [TL.joinL]
  | [w] => by simp [TL.joinL, wt]
  | w :: v :: ws => by
    have := joinL_wt c (v :: ws)
    show (w ++ ([c] ++ TL.joinL [c] (v :: ws))).length ≤ _
    simp only [List.length_append, wt, List.length_cons, List.length_nil] at *
    omega
theorem joinOk_wt {x : Str} {ws : List Tx} (hx : x.length ≤ 1) (h : wt ws ≤ 16777216) : joinOk x (ws.map S) := by
  unfold joinOk
  have h1 : ∀ ws : List Tx, ((ws.map S).map (·.length)).sum + ws.length = wt ws := by
    intro ws
    induction ws with
    | nil => rfl
    | cons w ws ih => simp only [List.map_cons, List.sum_cons, S_len', List.length_cons, wt]; omega
  have h2 : (ws.map S).length * x.length ≤ ws.length * 1 := by rw [List.length_map]; exact Nat.mul_le_mul_left _ hx
  have := h1 ws
  omega
theorem sl_to (k : Nat) (xs : List D) : (xs.drop (HT.sIx xs.length 0 none)).take (HT.sIx xs.length xs.length (some (k : Int)) - HT.sIx xs.length 0 none) = xs.take k := by
  rw [show HT.sIx xs.length 0 none = 0 from rfl, HT.sIx_nat, List.drop_zero, Nat.sub_zero]
  by_cases h : k ≤ xs.length
  · rw [Nat.min_eq_left h]
  · rw [Nat.min_eq_right (by omega), List.take_of_length_le (Nat.le_refl _), List.take_of_length_le (by omega)]
theorem sl_from (k : Nat) (xs : List D) : (xs.drop (HT.sIx xs.length 0 (some (k : Int)))).take (HT.sIx xs.length xs.length none - HT.sIx xs.length 0 (some (k : Int))) = xs.drop k := by
  rw [show HT.sIx xs.length xs.length none = xs.length from rfl, HT.sIx_nat, List.take_of_length_le (by simp)]
  by_cases h : k ≤ xs.length
  · rw [Nat.min_eq_left h]
  · rw [Nat.min_eq_right (by omega), List.drop_of_length_le (Nat.le_refl _), List.drop_of_length_le (by omega)]
def ones (n : Nat) : Tx := List.replicate n 49
theorem rep_1 (n : Nat) : repS (" " : Str) n = S (sp n) := by rw [rep_sp]; rfl
theorem rep_one (n : Nat) : repS ("1" : Str) n = S (ones n) := by
  rw [show ("1" : Str) = S [49] from ofS_eq "1", rep_S]
  congr 1
  unfold ones
  rw [Int.toNat_natCast]
  induction n with
  | zero => rfl
  | succ k ih => rw [List.replicate_succ, List.flatten_cons, ih, List.replicate_succ]; rfl
theorem rep_nl (n : Nat) : repS ("\n" : Str) n = S (List.replicate n 10) := by
  rw [nl_S, rep_S]
  congr 1
  rw [Int.toNat_natCast]
  induction n with
  | zero => rfl
  | succ k ih => rw [List.replicate_succ, List.flatten_cons, ih, List.replicate_succ]; rfl
def othersL : List Tx := [[48, 51], [45, 48], [43, 49], [120], [45], [49, 46, 48], [45, 45, 49], ones 60, ones 61, 45 :: ones 59, 45 :: ones 60, tDo, tAsk, [48], [45, 55], [100, 105, 100], [35, 32, 49]]
theorem others_ok : ∀ l ∈ othersL, l.length ≤ 61 := by decide +kernel
theorem others_at {k : Nat} (h : k < 17) : ∃ l, atI (tL othersL) (k : Int) = some (tD l) ∧ l ∈ othersL := by
  have hk : k < othersL.length := h
  exact ⟨othersL[k], atI_nat (by rw [List.getElem?_map, List.getElem?_eq_getElem hk]; rfl), List.getElem_mem hk⟩
def ct_spoilt : Ct := ctB Gp b_law_spoilt 2 8 (some 0)
def rowsOf (ls : List Tx) : List Tx := if ls = [] then [[100, 111, 32, 97, 100, 100, 32, 48, 32, 49]] else ls
theorem rows_ne (ls : List Tx) : rowsOf ls ≠ [] := by unfold rowsOf; split <;> simp_all
theorem rows_wt (ls : List Tx) : wt (rowsOf ls) ≤ wt ls + 11 := by
  unfold rowsOf
  split
  · simp [wt]
  · omega
theorem spoilt_call {t : Tape} {ls : List Tx} {f : Bool} (ht : TapeOk t) (hl : wt ls ≤ 20000) : ∃ (x : Tx) (t' : Tape), (x.length ≤ 2 * wt ls + 200) ∧ TapeOk t' ∧ ct_spoilt [tapeD t, .nd .lst f (tL ls)] (tD x) (some (tapeD t')) := by
  have key : ∃ p : Tx × Tape, (p.1.length ≤ 2 * wt ls + 200 ∧ TapeOk p.2) ∧ ct_spoilt [tapeD t, .nd .lst f (tL ls)] (tD p.1) (some (tapeD p.2)) := by
    refine ctB_ex (P := fun p : Tx × Tape => p.1.length ≤ 2 * wt ls + 200 ∧ TapeOk p.2) (by unfold b_law_spoilt; exact (by repeat' (first | exact True.intro | (refine pt_spl ?_ ?_) | (refine pt_ninS ?_ ?_) | (refine pt_mulS ?_ ?_) | (refine pt_crp ?_) | (refine pt_ch ?_ ?_ ?_) | (refine pt_kg ?_) | (refine pt_dsp ?_ ?_ ?_ ?_) | (exact pt_mvf) | (refine pt_rplD ?_ ?_ ?_ ?_) | (refine pt_E' ?_) | (exact fun h => nomatch h) | constructor))) rfl ?_
    have h7 : Gp 7 = ct_pick := rfl
    have hB := sizeB
    have z2 := size2
    have z3 := size3
    have hwl := wt_len ls
    have hrw := rows_wt ls
    have hrn := rows_ne ls
    unfold b_law_spoilt
    refine cutS (fun δ => δ = [some (tapeD t), some (.nd .lst f (tL ls)), some (.nd .lst true (tL (rowsOf ls))), none, none, none, none, none]) (by repeat' (first | exact True.intro | (refine pt_spl ?_ ?_) | (refine pt_ninS ?_ ?_) | (refine pt_mulS ?_ ?_) | (refine pt_crp ?_) | (refine pt_ch ?_ ?_ ?_) | (refine pt_kg ?_) | (refine pt_dsp ?_ ?_ ?_ ?_) | (exact pt_mvf) | (refine pt_rplD ?_ ?_ ?_ ?_) | (refine pt_E' ?_) | (exact fun h => nomatch h) | constructor)) ?_ ?_
    · cases ls with
      | nil => simp [wpSs, Z.wpS, wpE, wpP, wpPT, wpT, wpEs, wpO, wpOT, wpIt, rowsOf, ofS_eq]; decide
      | cons l ls => 
        have : ¬ ((ls.length : Int) + 1 = 0) := by omega
        simp only [List.length_cons] at hwl
        cases f <;> simp [wpSs, Z.wpS, wpE, wpP, wpPT, wpT, wpEs, wpO, wpOT, wpIt, rowsOf, this] <;> omega
    rintro _ rfl
    generalize rowsOf ls = R at *
    have hRl := wt_len R
    have hR0 : 0 < R.length := List.length_pos_iff.mpr hrn
    obtain ⟨a, t1, ha, ht1, hp1⟩ := pick_call ht (m := R.length) (by omega) (by omega)
    have ha' : a < R.length := by omega
    have hat : R[a]? = some R[a] := List.getElem?_eq_getElem ha'
    have hat2 : atI (tL R) (a : Int) = some (tD R[a]) := atI_nat (by rw [List.getElem?_map, hat]; rfl)
    have hwa := wt_mem (List.getElem_mem ha')
    refine cutS (fun δ => δ = [some (tapeD t1), some (.nd .lst f (tL ls)), some (.nd .lst true (tL R)), some (.at (.int a)), none, none, none, none]) (by repeat' (first | exact True.intro | (refine pt_spl ?_ ?_) | (refine pt_ninS ?_ ?_) | (refine pt_mulS ?_ ?_) | (refine pt_crp ?_) | (refine pt_ch ?_ ?_ ?_) | (refine pt_kg ?_) | (refine pt_dsp ?_ ?_ ?_ ?_) | (exact pt_mvf) | (refine pt_rplD ?_ ?_ ?_ ?_) | (refine pt_E' ?_) | (exact fun h => nomatch h) | constructor)) ?_ ?_
    · simp [wpSs, Z.wpS, wpE, wpP, wpPT, wpT, wpEs, wpO, wpOT, wpIt, h7]
      exact ⟨_, _, hp1, rfl, rfl⟩
    rintro _ rfl
    generalize R[a] = row at *
    have hcw := wt_cut 32 row
    have hcl := cut_len 32 row
    have hcn := cut_ne 32 row
    refine cutS (fun δ => δ = [some (tapeD t1), some (.nd .lst f (tL ls)), some (.nd .lst true (tL R)), some (.at (.int a)), some (.nd .lst true (tL (cut 32 row))), none, none, none]) (by repeat' (first | exact True.intro | (refine pt_spl ?_ ?_) | (refine pt_ninS ?_ ?_) | (refine pt_mulS ?_ ?_) | (refine pt_crp ?_) | (refine pt_ch ?_ ?_ ?_) | (refine pt_kg ?_) | (refine pt_dsp ?_ ?_ ?_ ?_) | (exact pt_mvf) | (refine pt_rplD ?_ ?_ ?_ ?_) | (refine pt_E' ?_) | (exact fun h => nomatch h) | constructor)) ?_ ?_
    · simp [wpSs, Z.wpS, wpE, wpP, wpPT, wpT, wpEs, wpO, wpOT, wpIt, splW, hat2, split_sp]
      exact ⟨by decide, by omega⟩
    rintro _ rfl
    generalize cut 32 row = W at *
    have hW0 : 0 < W.length := List.length_pos_iff.mpr hcn
    obtain ⟨k, t2, hk, ht2, hp2⟩ := pick_call ht1 (m := W.length) (by omega) (by omega)
    refine cutS (fun δ => δ = [some (tapeD t2), some (.nd .lst f (tL ls)), some (.nd .lst true (tL R)), some (.at (.int a)), some (.nd .lst true (tL W)), some (.at (.int k)), none, none]) (by repeat' (first | exact True.intro | (refine pt_spl ?_ ?_) | (refine pt_ninS ?_ ?_) | (refine pt_mulS ?_ ?_) | (refine pt_crp ?_) | (refine pt_ch ?_ ?_ ?_) | (refine pt_kg ?_) | (refine pt_dsp ?_ ?_ ?_ ?_) | (exact pt_mvf) | (refine pt_rplD ?_ ?_ ?_ ?_) | (refine pt_E' ?_) | (exact fun h => nomatch h) | constructor)) ?_ ?_
    · simp [wpSs, Z.wpS, wpE, wpP, wpPT, wpT, wpEs, wpO, wpOT, wpIt, h7]
      exact ⟨_, _, hp2, rfl, rfl⟩
    rintro _ rfl
    refine cutS (fun δ => δ = [some (tapeD t2), some (.nd .lst f (tL ls)), some (.nd .lst true (tL R)), some (.at (.int a)), some (.nd .lst true (tL W)), some (.at (.int k)), some (.nd .tup false (tL othersL)), none]) (by repeat' (first | exact True.intro | (refine pt_spl ?_ ?_) | (refine pt_ninS ?_ ?_) | (refine pt_mulS ?_ ?_) | (refine pt_crp ?_) | (refine pt_ch ?_ ?_ ?_) | (refine pt_kg ?_) | (refine pt_dsp ?_ ?_ ?_ ?_) | (exact pt_mvf) | (refine pt_rplD ?_ ?_ ?_ ?_) | (refine pt_E' ?_) | (exact fun h => nomatch h) | constructor)) ?_ ?_
    · have r1 : repS ("1" : Str) (60 : Int) = S (ones 60) := rep_one 60
      have r2 : repS ("1" : Str) (61 : Int) = S (ones 61) := rep_one 61
      have r3 : repS ("1" : Str) (59 : Int) = S (ones 59) := rep_one 59
      have r4 : ("-" : Str).length = 1 := rfl
      have r5 : ∀ n, (ones n).length = n := fun n => List.length_replicate
      simp [wpSs, Z.wpS, wpE, wpP, wpPT, wpT, wpEs, wpO, wpOT, wpIt, mulS, evMulS, r1, r2, r3, r4, r5]
      refine ⟨by decide, by decide, by decide, by omega, by decide, by omega, by omega, ?_⟩
      simp only [ofS_eq, S_cat2]
      rfl
    rintro _ rfl
    have hol : othersL.length = 17 := rfl
    obtain ⟨w, t3, hw, ht3, hp3⟩ := pick_call ht2 (m := 6) (by decide) (by decide)
    obtain ⟨q, t4, hq, ht4, hp4⟩ := pick_call ht3 (m := 17) (by decide) (by decide)
    obtain ⟨ow, hoat, how⟩ := others_at (k := q) (by omega)
    have hol2 := others_ok ow how
    refine cutS (fun δ => δ = [some (tapeD t3), some (.nd .lst f (tL ls)), some (.nd .lst true (tL R)), some (.at (.int a)), some (.nd .lst true (tL W)), some (.at (.int k)), some (.nd .tup false (tL othersL)), some (.at (.int w))]) (by repeat' (first | exact True.intro | (refine pt_spl ?_ ?_) | (refine pt_ninS ?_ ?_) | (refine pt_mulS ?_ ?_) | (refine pt_crp ?_) | (refine pt_ch ?_ ?_ ?_) | (refine pt_kg ?_) | (refine pt_dsp ?_ ?_ ?_ ?_) | (exact pt_mvf) | (refine pt_rplD ?_ ?_ ?_ ?_) | (refine pt_E' ?_) | (exact fun h => nomatch h) | constructor)) ?_ ?_
    · simp [wpSs, Z.wpS, wpE, wpP, wpPT, wpT, wpEs, wpO, wpOT, wpIt, h7]
      exact ⟨_, _, hp3, rfl, rfl⟩
    rintro _ rfl
    have hwt := wt_take W k
    have hwd := wt_drop W k
    have etk : (tL W).take k = tL (W.take k) := by simp [tL, List.map_take]
    have edr : (tL W).drop (k + 1) = tL (W.drop (k + 1)) := by simp [tL, List.map_drop]
    have hixa : ixN R.length (a : Int) = some a := by
      unfold ixN
      rw [if_pos (by omega)]
      simp
      omega
    have hset : ∀ x, (tL R).set a (tD x) = tL (R.set a x) := fun x => by simp [tL, List.map_set]
    refine cutS (fun δ => ∃ R' t' b, δ = [some (tapeD t'), some (.nd .lst f (tL ls)), some (.nd .lst true (tL R')), some (.at (.int a)), b, some (.at (.int k)), some (.nd .tup false (tL othersL)), some (.at (.int w))] ∧ wt R' ≤ 2 * wt R + 150 ∧ TapeOk t') (by repeat' (first | exact True.intro | (refine pt_spl ?_ ?_) | (refine pt_ninS ?_ ?_) | (refine pt_mulS ?_ ?_) | (refine pt_crp ?_) | (refine pt_ch ?_ ?_ ?_) | (refine pt_kg ?_) | (refine pt_dsp ?_ ?_ ?_ ?_) | (exact pt_mvf) | (refine pt_rplD ?_ ?_ ?_ ?_) | (refine pt_E' ?_) | (exact fun h => nomatch h) | constructor)) ?_ ?_
    · by_cases w0 : w = 0
      · subst w0
        have hsi : seqIndex? (a : Int) R.length = some a := by
          unfold seqIndex?
          simp
          omega
        have e := wt_erase R a
        have e2 : (tL R).eraseIdx a = tL (R.eraseIdx a) := by simp only [tL, List.eraseIdx_eq_take_drop_succ, List.map_append, List.map_take, List.map_drop]
        simp [wpSs, Z.wpS, wpE, wpP, wpPT, wpT, wpEs, wpO, wpOT, wpIt, hsi, hat]
        exact ⟨by omega, R.eraseIdx a, t3, ⟨rfl, e2⟩, by omega, ht3⟩
      have w0' : ¬ (w : Int) = 0 := by omega
      by_cases w1 : w = 1
      · subst w1
        have e2 : (tL R).take a ++ tD row :: (tL R).drop a = tL (R.take a ++ row :: R.drop a) := by simp [tL, List.map_take, List.map_drop]
        have e3 : wt (R.take a ++ row :: R.drop a) ≤ 2 * wt R + 150 := by
          have := wt_take R a
          rw [wt_app]; simp only [wt]; omega
        simp [wpSs, Z.wpS, wpE, wpP, wpPT, wpT, wpEs, wpO, wpOT, wpIt, hat2]
        exact ⟨by omega, by omega, _, t3, ⟨rfl, e2⟩, e3, ht3⟩
      have w1' : ¬ (w : Int) = 1 := by omega
      have hjo : ∀ ws, wt ws ≤ wt R + 100 → strsOf (tL ws) = some (ws.map S) ∧ joinOk " " (ws.map S) ∧ wt (R.set a (TL.joinL [32] ws)) ≤ 2 * wt R + 150 := fun ws hws => by
        refine ⟨strs_tL ws, joinOk_wt (Nat.le_of_eq len_sp) (by omega), ?_⟩
        have h1 := wt_set R a (TL.joinL [32] ws)
        have h2 := joinL_wt 32 ws
        omega
      have hfrW : (D.nd .lst true (tL W)).frz = .nd .lst false (tL W) := frz_tL2 W
      have hfrW2 : (D.nd .lst false (tL W)).frz = .nd .lst false (tL W) := frz_tLb W
      have s1 := sl_to k (tL W)
      have s2 := sl_from (k + 1) (tL W)
      rw [etk] at s1
      rw [edr] at s2
      have ek : ((k + 1 : Nat) : Int) = ((k : Int) + 1) := by simp
      rw [ek] at s2
      simp only [List.length_map] at s1 s2
      have hfT := fr_tL (W.take k)
      have hfD := fr_tL (W.drop (k + 1))
      have hfW := fr_tL W
      have hWl := wt_len W
      have hTl : (W.take k).length ≤ W.length := by rw [List.length_take]; omega
      have hDl : (W.drop (k + 1)).length ≤ W.length := by rw [List.length_drop]; omega
      by_cases w2 : w = 2
      · subst w2
        obtain ⟨j1, j2, j3⟩ := hjo (W.take k ++ W.drop (k + 1)) (by rw [wt_app]; omega)
        have etd : tL (W.take k) ++ tL (W.drop (k + 1)) = tL (W.take k ++ W.drop (k + 1)) := by simp [tL]
        simp only [Z.wpS, wpSs, wpE, wpT, wpPT, wpP, wpO]
        simp [hfrW, hfrW2, s1, s2, hfT, hfD, hfW, etd, j1, join_sp, hset, -List.map_append, -List.map_map]
        refine ⟨by omega, (W.take k ++ W.drop (k + 1)).map S, ?_, j2, a, hixa, R.set a (TL.joinL [32] (W.take k ++ W.drop (k + 1))), t3, ⟨rfl, ?_⟩, j3, ht3⟩
        · rw [← List.map_take, ← List.map_drop, ← List.map_append]; exact j1
        · rw [join_sp]; exact hset _
      have w2' : ¬ (w : Int) = 2 := by omega
      have hlo : (tL othersL).length = 17 := rfl
      by_cases w3 : w < 5
      · have w3' : (w : Int) < 5 := by omega
        obtain ⟨j1, j2, j3⟩ := hjo (W.take k ++ [ow] ++ W.drop (k + 1)) (by rw [wt_app, wt_app]; simp only [wt]; omega)
        simp only [Z.wpS, wpSs, wpE, wpEs, wpT, wpPT, wpP, wpO]
        simp [w0', w1', w2', w3', h7, hfrW, hfrW2, s1, s2, hfT, hfD, hfW, -List.map_append, -List.map_map]
        rw [if_neg w0]
        refine ⟨_, _, hp4, ?_⟩
        simp only [q_idx_t]
        refine ⟨_, hoat, rfl, by omega, by omega, by omega, (W.take k ++ [ow] ++ W.drop (k + 1)).map S, ?_, j2, a, hixa, R.set a (TL.joinL [32] (W.take k ++ [ow] ++ W.drop (k + 1))), t4, ⟨rfl, ?_⟩, j3, ht4⟩
        · rw [← j1]; simp [tL, List.map_take, List.map_drop]
        · rw [join_sp]; exact hset _
      · have w3' : ¬ (w : Int) < 5 := by omega
        obtain ⟨j1, j2, j3⟩ := hjo (W ++ [ow]) (by rw [wt_app]; simp only [wt]; omega)
        simp only [Z.wpS, wpSs, wpE, wpEs, wpT, wpPT, wpP, wpO]
        simp [w0', w1', w2', w3', h7, hfrW, hfrW2, hfW, -List.map_append, -List.map_map]
        rw [if_neg w0]
        refine ⟨_, _, hp4, ?_⟩
        simp only [q_idx_t]
        refine ⟨_, hoat, rfl, by omega, by omega, (W ++ [ow]).map S, ?_, j2, a, hixa, R.set a (TL.joinL [32] (W ++ [ow])), t4, ⟨rfl, ?_⟩, j3, ht4⟩
        · rw [← j1]; simp [tL]
        · rw [join_sp]; exact hset _
    rintro _ ⟨R', t5, b, rfl, hR', ht5⟩
    obtain ⟨z, t6, hz, ht6, hp6⟩ := pick_call ht5 (m := 2) (by decide) (by decide)
    have hj := joinOk_wt (x := "\n") (Nat.le_of_eq len_nl) (ws := R') (by omega)
    have hjl := joinL_wt 10 R'
    have hst := strs_tL R'
    have hnl := rep_nl z
    simp [wpSs, Z.wpS, wpE, wpP, wpPT, wpT, wpEs, wpO, wpOT, wpIt, h7, hst, hj, join_nl]
    refine ⟨_, _, hp6, ?_⟩
    have hz1 : ("\n" : Str).length * z ≤ 16777216 := by rw [len_nl]; omega
    simp [hnl, hz1]
    refine ⟨by omega, by omega, _, t6, ⟨?_, ht6⟩, rfl, rfl⟩
    simp
    omega
  obtain ⟨⟨x, t'⟩, ⟨h1, h2⟩, h⟩ := key
  exact ⟨x, t', h1, h2, h⟩
end K07
set_option Elab.async false
set_option linter.all false
set_option maxRecDepth 100000
set_option autoImplicit false
set_option maxHeartbeats 4000000
namespace K07
open PySem L2 Z
/-! ## _law_asked, law -/
def calledD : (Nat × Str) ⊕ List St → D
  | .inl (m, w) => .nd .tup false [.at (.str "line"), .at (.int m), .at (.str w)]
  | .inr ss => .nd .tup false [.at (.str "told"), .nd .tup true (stL ss)]
def ct_called : Ct := fun ds r o => ∃ t, ds = [tD t] ∧ t.length ≤ BIG ∧ r = calledD (rd 0 (ln t)) ∧ o = none
theorem plain_iL : ∀ xs : List Int, plainDs (iL xs) = true
  | [] => rfl
  | x :: xs => plain_iL xs
theorem plain_st (s : St) : plainD (stD s) = true := by
  unfold stD
  split
  · show (true && (true && ((true && (true && true)) && (plainDs (iL s.ns) && true)))) = true
    rw [plain_iL]; rfl
  · rfl
theorem plain_stL : ∀ ss : List St, plainDs (stL ss) = true
  | [] => rfl
  | s :: ss => by show (plainD (stD s) && plainDs (stL ss)) = true; rw [plain_st, plain_stL ss]; rfl
theorem same_called (x : (Nat × Str) ⊕ List St) : same (calledD x) (readD x) = true := by
  cases x with
  | inl p => obtain ⟨m, w⟩ := p; simp [calledD, readD, same, sames]
  | inr ss =>
    have := sames_self _ (plain_stL ss)
    simp [calledD, readD, same, sames]
    exact this
theorem sz_st (s : St) : szD (stD s) ≤ s.ns.length + 12 := by
  have : ∀ xs : List Int, szL (iL xs) = xs.length := by
    intro xs
    induction xs with
    | nil => rfl
    | cons x xs ih => simp only [List.map_cons, szL, szD, List.length_cons, ih]; omega
  unfold stD
  split
  · simp only [szD, szL, this]; omega
  · simp only [szD, szL]; omega
theorem step_ns {ws : List Tx} {s : St} (h : stepR ws = .inr s) : s.ns.length ≤ ws.length := by
  unfold stepR at h
  split at h
  · cases h
  · split at h
    · cases h
    · cases h; simp
theorem rd_sz : ∀ {ls : List Tx} {n : Nat} {ss : List St}, rd n ls = .inr ss → szL (stL ss) ≤ 13 * wt ls
  | [], n, ss, h => by simp only [rd] at h; cases h; simp [szL]
  | l :: ls, n, ss, h => by
    simp only [rd] at h
    cases hl : lineR n l with
    | bad w => rw [hl] at h; cases h
    | skip => rw [hl] at h; have := rd_sz h; simp only [wt]; omega
    | stp s =>
      rw [hl] at h
      simp only [] at h
      cases hr : rd (n + 1) ls with
      | inl p => rw [hr] at h; cases h
      | inr us =>
        rw [hr] at h
        cases h
        have h1 := rd_sz hr
        have h2 := sz_st s
        have h3 : s.ns.length ≤ l.length + 1 := by
          unfold lineR at hl
          split at hl
          · cases hl
          · split at hl
            · cases hl
            · cases hs : stepR (wd l) with
              | inl w => rw [hs] at hl; cases hl
              | inr u =>
                rw [hs] at hl
                cases hl
                have := step_ns hs
                have := wd_len l
                omega
        show szD (stD s) + szL (stL us) ≤ _
        simp only [wt]
        omega
theorem wt_ln (t : Tx) : wt (ln t) ≤ t.length + 1 := by
  have h := wt_cut 10 t
  unfold ln
  split
  · have := wt_take (cut 10 t) ((cut 10 t).length - 1)
    rw [List.dropLast_eq_take]
    omega
  · omega
theorem sz_read {t : Tx} (h : t.length ≤ 60000) : szD (readD (rd 0 (ln t))) ≤ 1000000 := by
  cases hr : rd 0 (ln t) with
  | inl p => obtain ⟨m, w⟩ := p; simp [readD, szD, szL]
  | inr ss =>
    have h1 := rd_sz hr
    have h2 := wt_ln t
    simp only [readD, szD, szL]
    omega
theorem sz_steps {ss : List St} (hs : ∀ s ∈ ss, StOk s) (hl : ss.length ≤ 400) : szL (stL ss) ≤ 400 * 15 := by
  refine Nat.le_trans (szL_le (k := 15) fun d hd => ?_) (Nat.mul_le_mul (by simpa using hl) (Nat.le_refl _))
  obtain ⟨s, h, rfl⟩ := List.mem_map.mp hd
  have := sz_st s
  have := (hs s h).few
  omega
def G3 : Nat → Ct
  | 3 => ct_st
  | 8 => ct_same
  | 10 => ct_ll
  | 12 => ct_lr
  | 13 => ct_called
  | 15 => ct_drawn
  | 16 => ct_loose
  | 17 => ct_spoilt
  | _ => fun _ _ _ => False
def ct_asked : Ct := ctB G3 b_law_asked 1 6 (some 0)
theorem same_call {x y : D} (h : same x y = true) (hz : szD y ≤ 1000000) : ct_same [x, y] (.at (.bl true)) none := ⟨x, y, rfl, h, hz, rfl, rfl⟩
theorem many_ne (t : Tape) (o : Unit) : True := trivial
theorem asked_call {t : Tape} (ht : TapeOk t) : ∃ t', TapeOk t' ∧ ct_asked [tapeD t] (.at (.bl true)) (some (tapeD t')) := by
  refine ctB_ex (P := fun t' : Tape => TapeOk t') (r := fun _ => .at (.bl true)) (o := fun t' => some (tapeD t')) (by unfold b_law_asked; exact (by repeat' (first | exact True.intro | (refine pt_spl ?_ ?_) | (refine pt_ninS ?_ ?_) | (refine pt_mulS ?_ ?_) | (refine pt_crp ?_) | (refine pt_ch ?_ ?_ ?_) | (refine pt_kg ?_) | (refine pt_dsp ?_ ?_ ?_ ?_) | (exact pt_mvf) | (refine pt_rplD ?_ ?_ ?_ ?_) | (refine pt_E' ?_) | (exact fun h => nomatch h) | constructor))) rfl ?_
  have h3 : G3 3 = ct_st := rfl
  have h8 : G3 8 = ct_same := rfl
  have h10 : G3 10 = ct_ll := rfl
  have h12 : G3 12 = ct_lr := rfl
  have h13 : G3 13 = ct_called := rfl
  have h15 : G3 15 = ct_drawn := rfl
  have h16 : G3 16 = ct_loose := rfl
  have h17 : G3 17 = ct_spoilt := rfl
  have hB := sizeB
  have z2 := size2
  have hBIG : BIG = 200000 := rfl
  unfold b_law_asked
  obtain ⟨ss, t1, ⟨hs, hl⟩, ht1, hc1⟩ := drawn_call ht
  have hos : StOks ss := ⟨hs, by omega⟩
  have hf := fr_stL ss
  refine cutS (fun δ => δ = [some (tapeD t1), some (.nd .tup true (stL ss)), none, none, none, none]) (by repeat' (first | exact True.intro | (refine pt_spl ?_ ?_) | (refine pt_ninS ?_ ?_) | (refine pt_mulS ?_ ?_) | (refine pt_crp ?_) | (refine pt_ch ?_ ?_ ?_) | (refine pt_kg ?_) | (refine pt_dsp ?_ ?_ ?_ ?_) | (exact pt_mvf) | (refine pt_rplD ?_ ?_ ?_ ?_) | (refine pt_E' ?_) | (exact fun h => nomatch h) | constructor)) ?_ ?_
  · simp [wpSs, Z.wpS, wpE, wpP, wpPT, wpT, wpEs, wpO, wpOT, wpIt, h15]
    exact ⟨_, _, hc1, rfl, rfl⟩
  rintro _ rfl
  refine cutS (fun δ => δ = [some (tapeD t1), some (.nd .tup true (stL ss)), some (.nd .lst true (tL (ss.map lineOf))), none, none, none]) (by repeat' (first | exact True.intro | (refine pt_spl ?_ ?_) | (refine pt_ninS ?_ ?_) | (refine pt_mulS ?_ ?_) | (refine pt_crp ?_) | (refine pt_ch ?_ ?_ ?_) | (refine pt_kg ?_) | (refine pt_dsp ?_ ?_ ?_ ?_) | (exact pt_mvf) | (refine pt_rplD ?_ ?_ ?_ ?_) | (refine pt_E' ?_) | (exact fun h => nomatch h) | constructor)) ?_ ?_
  · simp [wpSs, Z.wpS, wpE, wpP, wpPT, wpT, wpEs, wpO, wpOT, wpIt, h10, hf]
    exact ⟨none, ss, true, rfl, hos, by simp, rfl⟩
  rintro _ rfl
  have hnl : (ss.map lineNl) = (ss.map lineOf).map (· ++ [10]) := by rw [List.map_map]; rfl
  have hlo := fun s (h : s ∈ ss) => lineOf_ok (hs s h)
  have hmn : (many (ss.map lineOf)).length ≤ 12 * 85 := by
    have := many_len (k := 84) (ls := ss.map lineOf) fun l hl => by
      obtain ⟨s, h, rfl⟩ := List.mem_map.mp hl
      exact (hlo s h).2.2.1
    have h2 : (ss.map lineOf).length * (84 + 1) ≤ 12 * 85 := Nat.mul_le_mul (by simpa using hl) (by omega)
    omega
  have hwl : wt (ss.map lineOf) ≤ 12 * 85 := by
    have : ∀ ss : List St, (∀ s ∈ ss, StOk s) → wt (ss.map lineOf) ≤ ss.length * 85 := by
      intro ss
      induction ss with
      | nil => intro _; simp [wt]
      | cons s ss ih =>
        intro h
        have h1 := ih fun s hs => h s (List.mem_cons_of_mem _ hs)
        have h2 := (lineOf_ok (h s List.mem_cons_self)).2.2.1
        simp only [List.map_cons, wt, List.length_cons, Nat.succ_mul]
        omega
    have h1 := this ss hs
    have h2 : ss.length * 85 ≤ 12 * 85 := Nat.mul_le_mul hl (by omega)
    omega
  have hfl : (D.nd .lst true (tL (ss.map lineOf))).frz = .nd .lst false (tL (ss.map lineOf)) := frz_tL2 _
  have hfl2 : (D.nd .lst false (tL (ss.map lineOf))).frz = .nd .lst false (tL (ss.map lineOf)) := frz_tLb _
  have hlen : (ss.map lineOf).length ≤ 12 := by simpa using hl
  have hlm : ∀ l ∈ ss.map lineOf, 10 ∉ l ∧ l ≠ [] ∧ l.length ≤ 84 := fun l hl => by
    obtain ⟨s, h, rfl⟩ := List.mem_map.mp hl
    exact ⟨(hlo s h).1, (hlo s h).2.1, (hlo s h).2.2.1⟩
  have hstc : ct_st [.nd .tup true (stL ss)] (tD (many (ss.map lineOf))) none := ⟨ss, true, rfl, hos, rfl, rfl⟩
  have hTl := tell_lines hs
  have hje := joinE_many (ss.map lineOf)
  generalize hLL : ss.map lineOf = LL at *
  refine cutS (fun δ => δ = [some (tapeD t1), some (.nd .tup true (stL ss)), some (.nd .lst false (tL LL)), none, none, none]) (by repeat' (first | exact True.intro | (refine pt_spl ?_ ?_) | (refine pt_ninS ?_ ?_) | (refine pt_mulS ?_ ?_) | (refine pt_crp ?_) | (refine pt_ch ?_ ?_ ?_) | (refine pt_kg ?_) | (refine pt_dsp ?_ ?_ ?_ ?_) | (exact pt_mvf) | (refine pt_rplD ?_ ?_ ?_ ?_) | (refine pt_E' ?_) | (exact fun h => nomatch h) | constructor)) ?_ ?_
  · simp only [Z.wpS, wpT, wpE, wpEs, wpIt, wpP, h3, h8]
    refine ⟨_, rfl, hf, ?_⟩
    simp only [q_call_n]
    refine ⟨_, _, hstc, _, rfl, ?_⟩
    rw [hfl]
    simp only [q_seq_l]
    refine ⟨fr_tL _, ?_⟩
    refine forC_mapL tD (fun l => tD (l ++ [10])) LL (δ0 := [some (tapeD t1), some (.nd .tup true (stL ss)), some (.nd .lst false (tL LL)), none, none, none]) _ (fun l hl k hk => ?_) (by omega) ?_
    · have := (hlm l hl).2.2
      simp [wpSs, Z.wpS, wpE, wpP, wpPT, wpT, wpEs, wpO, wpOT, wpIt, nl_S]
      exact ⟨by omega, hk⟩
    · have e1 : LL.map (fun l => tD (l ++ [10])) = tL (LL.map (· ++ [10])) := by simp [tL]
      have hjo := joinOk_of (x := "") (n := 12) (k := 85) (ws := LL.map (· ++ [10])) (fun w hw => by
        obtain ⟨l, h, rfl⟩ := List.mem_map.mp hw
        have := (hlm l h).2.2
        simp; omega) (by simpa using hlen) (by rw [len_e]; omega) (by decide)
      rw [e1]
      simp only [q_b_join, q_join_l]
      refine ⟨_, strs_tL _, hjo, rfl, ?_⟩
      rw [join_e, hje]
      refine ⟨_, _, same_call (by simp [same]) (by simp [szD]), ?_⟩
      simp [wpSs, Z.wpS, wpE, wpP, wpPT, wpT, wpEs, wpO, wpOT, wpIt]
  rintro _ rfl
  -- the two texts
  obtain ⟨lx, t2, ⟨hlx, hTx, hlx4⟩, ht2, hc2⟩ := loose_call (t := t1) (ss := ss) ht1 hs hl
  rw [hLL] at hc2
  have hjn : (TL.joinL [10] LL).length ≤ 2000 := by
    have := joinL_wt 10 LL
    omega
  have hlnj : ln (TL.joinL [10] LL) = LL := ln_join fun l hl => ⟨(hlm l hl).1, (hlm l hl).2.1⟩
  have hjo := joinOk_wt (x := "\n") (Nat.le_of_eq len_nl) (ws := LL) (by omega)
  have hrd1 : rd 0 (ln (TL.joinL [10] LL)) = .inr ss := by rw [hlnj]; exact rd_tell 0 hTl (by omega)
  have hrd2 : rd 0 (ln lx) = .inr ss := rd_tell 0 hTx (by omega)
  refine cutS (fun δ => ∃ a, δ = [some (tapeD t2), some (.nd .tup true (stL ss)), some (.nd .lst false (tL LL)), a, none, none]) (by repeat' (first | exact True.intro | (refine pt_spl ?_ ?_) | (refine pt_ninS ?_ ?_) | (refine pt_mulS ?_ ?_) | (refine pt_crp ?_) | (refine pt_ch ?_ ?_ ?_) | (refine pt_kg ?_) | (refine pt_dsp ?_ ?_ ?_ ?_) | (exact pt_mvf) | (refine pt_rplD ?_ ?_ ?_ ?_) | (refine pt_E' ?_) | (exact fun h => nomatch h) | constructor)) ?_ ?_
  · have body : ∀ x, x.length ≤ BIG → rd 0 (ln x) = .inr ss → ∀ (a : Option D) (k : Out → Prop), k (.nx [some (tapeD t2), some (.nd .tup true (stL ss)), some (.nd .lst false (tL LL)), some (tD x), none, none]) → wpSs G3 (frB (hdS (tlS (tlS (tlS b_law_asked))))) [some (tapeD t2), some (.nd .tup true (stL ss)), some (.nd .lst false (tL LL)), some (tD x), none, none] k := fun x hx hr a k hk => by
      have c1 : ct_called [tD x] (.nd .tup false [.at (.str "told"), .nd .tup true (stL ss)]) none := ⟨x, rfl, hx, by rw [hr]; rfl, rfl⟩
      have c2 : ct_lr [tD x] (.nd .tup false [.at (.str "told"), .nd .tup false (stL ss)]) none := ⟨x, rfl, hx, by rw [hr]; rfl, rfl⟩
      have hss := sames_self _ (plain_stL ss)
      have hsz := sz_steps hs (by omega)
      have c3 := same_call (x := .nd .tup false [.nd .tup false [.at (.str "told"), .nd .tup true (stL ss)], .nd .tup false [.at (.str "told"), .nd .tup false (stL ss)]]) (y := .nd .tup false [.nd .tup false [.at (.str "told"), .nd .tup true (stL ss)], .nd .tup false [.at (.str "told"), .nd .tup true (stL ss)]]) (by simp [same, sames]; exact hss) (by simp only [szD, szL]; omega)
      unfold b_law_asked
      simp only [tlS, hdS, frB]
      simp [wpSs, Z.wpS, wpE, wpP, wpPT, wpT, wpEs, wpO, wpOT, wpIt, h8, h12, h13, z2, hf]
      exact ⟨_, ⟨_, c1⟩, _, ⟨_, c2⟩, _, ⟨_, c3⟩, by simpa using hk⟩
    simp only [Z.wpS, wpIt, wpE, wpEs, wpP]
    refine ⟨_, rfl, ?_⟩
    simp only [q_b_join, q_join_l]
    refine ⟨_, strs_tL LL, hjo, rfl, ?_⟩
    rw [join_nl, h16]
    refine ⟨_, rfl, _, rfl, ?_⟩
    rw [hfl2]
    refine ⟨_, _, hc2, z2, ?_⟩
    simp only [q_seq_t]
    refine ⟨rfl, ?_⟩
    simp only [forW, q_g_n, List.set_cons_succ, List.set_cons_zero]
    refine body _ (by omega) hrd1 none _ ?_
    refine body _ hlx hrd2 none _ ?_
    exact ⟨_, rfl, _, rfl⟩
  rintro _ ⟨a, rfl⟩
  refine cutS (fun δ => ∃ a b t', δ = [some (tapeD t'), some (.nd .tup true (stL ss)), some (.nd .lst false (tL LL)), a, b, none] ∧ TapeOk t') (by repeat' (first | exact True.intro | (refine pt_spl ?_ ?_) | (refine pt_ninS ?_ ?_) | (refine pt_mulS ?_ ?_) | (refine pt_crp ?_) | (refine pt_ch ?_ ?_ ?_) | (refine pt_kg ?_) | (refine pt_dsp ?_ ?_ ?_ ?_) | (exact pt_mvf) | (refine pt_rplD ?_ ?_ ?_ ?_) | (refine pt_E' ?_) | (exact fun h => nomatch h) | constructor)) ?_ ?_
  · simp only [Z.wpS, wpIt, wpE]
    refine ⟨5, rfl, by decide, by decide, ?_⟩
    refine forW_ix (fun i δ => ∃ a b t', δ = [some (tapeD t'), some (.nd .tup true (stL ss)), some (.nd .lst false (tL LL)), a, b, none] ∧ TapeOk t') _ _ 0 _ ⟨_, _, t2, rfl, ht2⟩ ?_ ?_
    · rintro i d δ hd ⟨a, b, t3, rfl, ht3⟩ k k1 _ _ _ _
      rw [List.getElem?_map] at hd
      obtain ⟨j, e1, rfl⟩ := Option.map_eq_some_iff.mp hd
      simp only [q_g_n, List.set_cons_succ, List.set_cons_zero]
      obtain ⟨x1, t4, hx1, ht4, hc4⟩ := spoilt_call (t := t3) (ls := LL) (f := false) ht3 (by omega)
      refine cutS (fun δ => δ = [some (tapeD t4), some (.nd .tup true (stL ss)), some (.nd .lst false (tL LL)), some (tD x1), some (.at (.int j)), none]) (by repeat' (first | exact True.intro | (refine pt_spl ?_ ?_) | (refine pt_ninS ?_ ?_) | (refine pt_mulS ?_ ?_) | (refine pt_crp ?_) | (refine pt_ch ?_ ?_ ?_) | (refine pt_kg ?_) | (refine pt_dsp ?_ ?_ ?_ ?_) | (exact pt_mvf) | (refine pt_rplD ?_ ?_ ?_ ?_) | (refine pt_E' ?_) | (exact fun h => nomatch h) | constructor)) ?_ ?_
      · simp only [Z.wpS, wpE, wpEs, h17]
        refine ⟨_, rfl, _, rfl, ?_⟩
        rw [hfl2]
        exact ⟨_, _, hc4, _, rfl, rfl⟩
      rintro _ rfl
      refine cutS (fun δ => ∃ x t', δ = [some (tapeD t'), some (.nd .tup true (stL ss)), some (.nd .lst false (tL LL)), some (tD x), some (.at (.int j)), none] ∧ x.length ≤ 10000 ∧ TapeOk t') (by repeat' (first | exact True.intro | (refine pt_spl ?_ ?_) | (refine pt_ninS ?_ ?_) | (refine pt_mulS ?_ ?_) | (refine pt_crp ?_) | (refine pt_ch ?_ ?_ ?_) | (refine pt_kg ?_) | (refine pt_dsp ?_ ?_ ?_ ?_) | (exact pt_mvf) | (refine pt_rplD ?_ ?_ ?_ ?_) | (refine pt_E' ?_) | (exact fun h => nomatch h) | constructor)) ?_ ?_
      · by_cases hj : (3 : Int) < (j : Int)
        · obtain ⟨x2, t5, hx2, ht5, hc5⟩ := spoilt_call (t := t4) (ls := cut 10 x1) (f := true) ht4 (by rw [wt_cut]; omega)
          rw [wt_cut] at hx2
          have hjn : 3 < j := by omega
          simp only [wpSs, Z.wpS, wpE, wpP, wpPT, wpT, wpEs, wpO, wpOT, wpIt]
          simp [h17, splW, split_nl, hj, -List.map_map]
          simp only [wpP]
          refine ⟨_, rfl, S x1, rfl, _, rfl, by decide, by simp; omega, ?_⟩
          rw [split_nl, sL_S]
          exact ⟨_, _, hc5, x2, t5, ⟨rfl, rfl⟩, by omega, ht5⟩
        · simp [wpSs, Z.wpS, wpE, wpP, wpPT, wpT, wpEs, wpO, wpOT, wpIt, hj]
          exact ⟨x1, t4, ⟨rfl, rfl⟩, by omega, ht4⟩
      rintro _ ⟨x, t5, rfl, hx, ht5⟩
      have c1 : ct_called [tD x] (calledD (rd 0 (ln x))) none := ⟨x, rfl, by omega, rfl, rfl⟩
      have c2 : ct_lr [tD x] (readD (rd 0 (ln x))) none := ⟨x, rfl, by omega, rfl, rfl⟩
      have c3 := same_call (same_called (rd 0 (ln x))) (sz_read (t := x) (by omega))
      have k2 := k1 [some (tapeD t5), some (.nd .tup true (stL ss)), some (.nd .lst false (tL LL)), some (tD x), some (.at (.int j)), none] ⟨_, _, t5, rfl, ht5⟩
      simp [wpSs, Z.wpS, wpE, wpP, wpPT, wpT, wpEs, wpO, wpOT, wpIt, h8, h12, h13]
      exact ⟨_, ⟨_, c1⟩, _, ⟨_, c2⟩, _, ⟨_, c3⟩, by simpa using k2⟩
    · rintro δ ⟨a, b, t3, rfl, ht3⟩
      exact ⟨_, rfl, a, b, t3, rfl, ht3⟩
  rintro _ ⟨a, b, t3, rfl, ht3⟩
  simp [wpSs, Z.wpS, wpE, wpP, wpPT, wpT, wpEs, wpO, wpOT, wpIt]
  exact ⟨t3, ht3, rfl⟩
/-! ### law -/
def G4 : Nat → Ct
  | 3 => ct_st
  | 6 => ct_tape
  | 7 => ct_pick
  | 8 => ct_same
  | 13 => ct_called
  | 18 => ct_asked
  | _ => fun _ _ _ => False
def ct_law : Ct := fun ds r o => ∃ ns, ds = [.nd .lst false (iL ns)] ∧ ns.length ≤ 63 ∧ r = .at (.bl true) ∧ o = none
inductive Due where
  | told (ss : List St)
  | line (m : Nat) (w : Str)
def dueD : Due → D
  | .told ss => .nd .tup false [.at (.str "told"), .nd .tup false (stL ss)]
  | .line m w => .nd .tup false [.at (.str "line"), .at (.int m), .at (.str w)]
end K07
set_option Elab.async false
set_option linter.all false
set_option maxRecDepth 100000
set_option autoImplicit false
set_option maxHeartbeats 4000000
namespace K07
open PySem L2 Z
def handL : List (Tx × ((Nat × Str) ⊕ List St)) := [
  ([], .inr []),
  ([35, 32, 120, 10, 10], .inr []),
  ([100, 111, 32, 97, 100, 100, 32, 48, 32, 50, 32, 49, 10, 97, 115, 107, 32, 115, 113, 32, 48, 32, 50], .inr [⟨true, [97, 100, 100], 0, 2, [1]⟩, ⟨false, [115, 113], 0, 2, []⟩]),
  ([100, 111, 101, 115, 32, 97, 100, 100, 32, 48, 32, 49], .inl (1, "words")),
  ([100, 111, 32, 97, 100, 100, 32, 48], .inl (1, "words")),
  ([10, 97, 115, 107, 32, 113, 32, 48, 32, 49, 32, 50], .inl (2, "words")),
  ([97, 115, 107, 32, 113, 32, 48], .inl (1, "words")),
  ([100, 111, 32, 97, 100, 100, 32, 48, 48, 32, 49], .inl (1, "integer")),
  ([100, 111, 32, 97, 100, 100, 32, 48, 32, 49, 32, 45, 48], .inl (1, "integer")),
  ([97, 115, 107, 32, 113, 32, 120, 32, 49], .inl (1, "integer")),
  ([97, 115, 107, 32, 120, 32, 49, 10, 100, 111, 32, 121, 32, 48, 32, 122], .inl (1, "words")),
  ([100, 111, 32, 55, 32, 53, 32, 45, 51, 32] ++ List.replicate 60 57, .inr [⟨true, [55], 5, -3, [10 ^ 60 - 1]⟩]),
  ([100, 111, 32, 100, 32, 48, 32, 49, 32] ++ List.replicate 61 57, .inl (1, "integer"))]

theorem handL_ok : ∀ p ∈ handL, rd 0 (ln p.1) = p.2 ∧ p.1.length ≤ 200 := by
  decide +kernel
abbrev gD (p : Tx × ((Nat × Str) ⊕ List St)) : D := .nd .tup false [tD p.1, readD p.2]
theorem fr_read (x : (Nat × Str) ⊕ List St) : (readD x).froz = true := by
  cases x with
  | inl p => obtain ⟨m, w⟩ := p; rfl
  | inr ss => simp [readD, fr_stL]
theorem rep_9 (n : Nat) : repS ("9" : Str) n = S (List.replicate n 57) := by
  rw [show ("9" : Str) = S [57] from ofS_eq "9", rep_S]
  congr 1
  rw [Int.toNat_natCast]
  induction n with
  | zero => rfl
  | succ k ih => rw [List.replicate_succ, List.flatten_cons, ih, List.replicate_succ]; rfl
def askT : Tx := [97, 115, 107, 32, 113, 32, 48, 32, 49]
def askS : St := ⟨false, [113], 0, 1, []⟩
def bigT (m : Nat) : Tx := many (List.replicate 399 askT ++ List.replicate (1 + m) [35])
def longT (m : Nat) : Tx := askT ++ sp (1991 + m)
theorem big_ln (m : Nat) : ln (bigT m) = List.replicate 399 askT ++ List.replicate (1 + m) [35] := ln_many fun l hl => by
  rcases List.mem_append.mp hl with h | h
  · rw [List.eq_of_mem_replicate h]; decide
  · rw [List.eq_of_mem_replicate h]; decide
def bigE (m : Nat) : (Nat × Str) ⊕ List St := if m = 0 then .inr (List.replicate 399 askS) else .inl (401, "limit")
def longE (m : Nat) : (Nat × Str) ⊕ List St := if m = 0 then .inr [askS] else .inl (2, "limit")
theorem big_rd {m : Nat} (h : m < 2) : rd 0 (ln (bigT m)) = bigE m := by
  rw [big_ln]
  have : m = 0 ∨ m = 1 := by omega
  rcases this with rfl | rfl
  · decide +kernel
  · decide +kernel
theorem long_rd {m : Nat} (h : m < 2) : rd 0 (ln (35 :: 10 :: longT m)) = longE m := by
  have : m = 0 ∨ m = 1 := by omega
  rcases this with rfl | rfl
  · decide +kernel
  · decide +kernel
theorem many_rep (l : Tx) : ∀ n, many (List.replicate n l) = (List.replicate n (l ++ [10])).flatten
  | 0 => rfl
  | n + 1 => by rw [List.replicate_succ, List.replicate_succ, many, List.flatten_cons, many_rep l n]; simp
theorem rep_ask : repS ("ask q 0 1\n" : Str) 399 = S (many (List.replicate 399 askT)) := by
  rw [show ("ask q 0 1\n" : Str) = S (askT ++ [10]) from ofS_eq _, rep_S, many_rep]; rfl
theorem rep_hash (m : Nat) : repS ("#\n" : Str) (1 + (m : Int)) = S (many (List.replicate (1 + m) [35])) := by
  rw [show ("#\n" : Str) = S ([35] ++ [10]) from ofS_eq _, rep_S, many_rep]
  have : (1 + (m : Int)).toNat = 1 + m := by omega
  rw [this]
theorem rep_long (m : Nat) : repS (" " : Str) (1991 + (m : Int)) = S (sp (1991 + m)) := by
  rw [rep_sp]
  have : (1991 + (m : Int)).toNat = 1991 + m := by omega
  rw [this]
theorem big_len {m : Nat} (h : m < 2) : (bigT m).length ≤ 5000 := by
  have : m = 0 ∨ m = 1 := by omega
  rcases this with rfl | rfl <;> decide +kernel
end K07
set_option Elab.async false
set_option linter.all false
set_option maxRecDepth 100000
set_option autoImplicit false
set_option maxHeartbeats 4000000
namespace K07
open PySem L2 Z
theorem l_law : ∀ ds r o, ct_law ds r o → ds.length = 1 ∧ wpSs G4 blaw (startD 8 ds) (retW none r o) := by
  rintro ds r o ⟨ns, rfl, hl, rfl, rfl⟩
  refine ⟨rfl, ?_⟩
  have h3 : G4 3 = ct_st := rfl
  have h6 : G4 6 = ct_tape := rfl
  have h7 : G4 7 = ct_pick := rfl
  have h8 : G4 8 = ct_same := rfl
  have h13 : G4 13 = ct_called := rfl
  have h18 : G4 18 = ct_asked := rfl
  have hB := sizeB
  have z2 := size2
  have z3 := size3
  have hBIG : BIG = 200000 := rfl
  have hfi : frozL (iL ns) = true := frozL_iL ns
  generalize hsD : D.nd Kd.lst false (iL ns) = sD
  obtain ⟨t, ht, hct⟩ := tape_call hl
  rw [hsD] at hct
  have hsf : sD.froz = true := by rw [← hsD]; exact hfi
  unfold blaw
  refine cutS (fun δ => δ = [some sD, some (tapeD t), none, none, none, none, none, none]) (by repeat' (first | exact True.intro | (refine pt_spl ?_ ?_) | (refine pt_ninS ?_ ?_) | (refine pt_mulS ?_ ?_) | (refine pt_crp ?_) | (refine pt_ch ?_ ?_ ?_) | (refine pt_kg ?_) | (refine pt_dsp ?_ ?_ ?_ ?_) | (exact pt_mvf) | (refine pt_rplD ?_ ?_ ?_ ?_) | (refine pt_E' ?_) | (exact fun h => nomatch h) | constructor)) ?_ ?_
  · simp [wpSs, Z.wpS, wpE, wpP, wpPT, wpT, wpEs, wpO, wpOT, wpIt, h6, hsf]
    exact ⟨_, hct⟩
  rintro _ rfl
  refine cutS (fun δ => ∃ t' a, δ = [some sD, some (tapeD t'), a, none, none, none, none, none] ∧ TapeOk t') (by repeat' (first | exact True.intro | (refine pt_spl ?_ ?_) | (refine pt_ninS ?_ ?_) | (refine pt_mulS ?_ ?_) | (refine pt_crp ?_) | (refine pt_ch ?_ ?_ ?_) | (refine pt_kg ?_) | (refine pt_dsp ?_ ?_ ?_ ?_) | (exact pt_mvf) | (refine pt_rplD ?_ ?_ ?_ ?_) | (refine pt_E' ?_) | (exact fun h => nomatch h) | constructor)) ?_ ?_
  · simp only [Z.wpS, wpIt, wpE]
    refine ⟨3, rfl, by decide, by decide, ?_⟩
    refine forW_ix (fun i δ => ∃ t' a, δ = [some sD, some (tapeD t'), a, none, none, none, none, none] ∧ TapeOk t') _ _ 0 _ ⟨t, none, rfl, ht⟩ ?_ ?_
    · rintro i d δ hd ⟨t1, a, rfl, ht1⟩ k k1 _ _ _ _
      obtain ⟨t2, ht2, hc2⟩ := asked_call ht1
      have k2 := k1 [some sD, some (tapeD t2), some d, none, none, none, none, none] ⟨t2, _, rfl, ht2⟩
      simp [wpSs, Z.wpS, wpE, wpP, wpPT, wpT, wpEs, wpO, wpOT, wpIt, h18]
      exact ⟨_, _, hc2, by simpa using k2⟩
    · rintro δ ⟨t1, a, rfl, ht1⟩
      exact ⟨_, rfl, t1, a, rfl, ht1⟩
  rintro _ ⟨t1, a, rfl, ht1⟩
  refine cutS (fun δ => δ = [some sD, some (tapeD t1), a, some (.nd .lst true ((handL.take 3).map gD)), none, none, none, none]) (by repeat' (first | exact True.intro | (refine pt_spl ?_ ?_) | (refine pt_ninS ?_ ?_) | (refine pt_mulS ?_ ?_) | (refine pt_crp ?_) | (refine pt_ch ?_ ?_ ?_) | (refine pt_kg ?_) | (refine pt_dsp ?_ ?_ ?_ ?_) | (exact pt_mvf) | (refine pt_rplD ?_ ?_ ?_ ?_) | (refine pt_E' ?_) | (exact fun h => nomatch h) | constructor)) ?_ ?_
  · simp [wpSs, Z.wpS, wpE, wpP, wpPT, wpT, wpEs, wpO, wpOT, wpIt, z2, z3]
    repeat (refine ⟨by first | omega | decide | exact Nat.le_trans (m := 1000) (by decide) (by omega), ?_⟩)
    simp only [ofS_eq]
    rfl
  rintro _ rfl
  refine cutS (fun δ => δ = [some sD, some (tapeD t1), a, some (.nd .lst true ((handL.take 6).map gD)), none, none, none, none]) (by repeat' (first | exact True.intro | (refine pt_spl ?_ ?_) | (refine pt_ninS ?_ ?_) | (refine pt_mulS ?_ ?_) | (refine pt_crp ?_) | (refine pt_ch ?_ ?_ ?_) | (refine pt_kg ?_) | (refine pt_dsp ?_ ?_ ?_ ?_) | (exact pt_mvf) | (refine pt_rplD ?_ ?_ ?_ ?_) | (refine pt_E' ?_) | (exact fun h => nomatch h) | constructor)) ?_ ?_
  · have e : (handL.take 6).map gD = (handL.take 3).map gD ++ ((handL.drop 3).take 3).map gD := rfl
    have hl3 : ((handL.take 3).map gD).length = 3 := rfl
    rw [e]
    generalize (handL.take 3).map gD = X at *
    simp [wpSs, Z.wpS, wpE, wpP, wpPT, wpT, wpEs, wpO, wpOT, wpIt, z2, z3]
    repeat (refine ⟨by first | omega | decide | exact Nat.le_trans (m := 1000) (by decide) (by omega), ?_⟩)
    simp only [ofS_eq]
    rfl
  rintro _ rfl
  refine cutS (fun δ => δ = [some sD, some (tapeD t1), a, some (.nd .lst true ((handL.take 9).map gD)), none, none, none, none]) (by repeat' (first | exact True.intro | (refine pt_spl ?_ ?_) | (refine pt_ninS ?_ ?_) | (refine pt_mulS ?_ ?_) | (refine pt_crp ?_) | (refine pt_ch ?_ ?_ ?_) | (refine pt_kg ?_) | (refine pt_dsp ?_ ?_ ?_ ?_) | (exact pt_mvf) | (refine pt_rplD ?_ ?_ ?_ ?_) | (refine pt_E' ?_) | (exact fun h => nomatch h) | constructor)) ?_ ?_
  · have e : (handL.take 9).map gD = (handL.take 6).map gD ++ ((handL.drop 6).take 3).map gD := rfl
    have hl3 : ((handL.take 6).map gD).length = 6 := rfl
    rw [e]
    generalize (handL.take 6).map gD = X at *
    simp [wpSs, Z.wpS, wpE, wpP, wpPT, wpT, wpEs, wpO, wpOT, wpIt, z2, z3]
    repeat (refine ⟨by first | omega | decide | exact Nat.le_trans (m := 1000) (by decide) (by omega), ?_⟩)
    simp only [ofS_eq]
    rfl
  rintro _ rfl
  refine cutS (fun δ => δ = [some sD, some (tapeD t1), a, some (.nd .lst true ((handL.take 11).map gD)), none, none, none, none]) (by repeat' (first | exact True.intro | (refine pt_spl ?_ ?_) | (refine pt_ninS ?_ ?_) | (refine pt_mulS ?_ ?_) | (refine pt_crp ?_) | (refine pt_ch ?_ ?_ ?_) | (refine pt_kg ?_) | (refine pt_dsp ?_ ?_ ?_ ?_) | (exact pt_mvf) | (refine pt_rplD ?_ ?_ ?_ ?_) | (refine pt_E' ?_) | (exact fun h => nomatch h) | constructor)) ?_ ?_
  · have e : (handL.take 11).map gD = (handL.take 9).map gD ++ ((handL.drop 9).take 2).map gD := rfl
    have hl3 : ((handL.take 9).map gD).length = 9 := rfl
    rw [e]
    generalize (handL.take 9).map gD = X at *
    simp [wpSs, Z.wpS, wpE, wpP, wpPT, wpT, wpEs, wpO, wpOT, wpIt, z2, z3]
    repeat (refine ⟨by first | omega | decide | exact Nat.le_trans (m := 1000) (by decide) (by omega), ?_⟩)
    simp only [ofS_eq]
    rfl
  rintro _ rfl
  refine cutS (fun δ => δ = [some sD, some (tapeD t1), a, some (.nd .lst true ((handL.take 12).map gD)), none, none, none, none]) (by repeat' (first | exact True.intro | (refine pt_spl ?_ ?_) | (refine pt_ninS ?_ ?_) | (refine pt_mulS ?_ ?_) | (refine pt_crp ?_) | (refine pt_ch ?_ ?_ ?_) | (refine pt_kg ?_) | (refine pt_dsp ?_ ?_ ?_ ?_) | (exact pt_mvf) | (refine pt_rplD ?_ ?_ ?_ ?_) | (refine pt_E' ?_) | (exact fun h => nomatch h) | constructor)) ?_ ?_
  · have e : (handL.take 12).map gD = (handL.take 11).map gD ++ ((handL.drop 11).take 1).map gD := rfl
    have hl3 : ((handL.take 11).map gD).length = 11 := rfl
    rw [e]
    generalize (handL.take 11).map gD = X at *
    have r1 : repS ("9" : Str) (60 : Int) = S (List.replicate 60 57) := rep_9 60
    have r2 : repS ("9" : Str) (61 : Int) = S (List.replicate 61 57) := rep_9 61
    have hp : CPow 10 60 := ⟨by decide, by decide, by decide⟩
    simp [wpSs, Z.wpS, wpE, wpP, wpPT, wpT, wpEs, wpO, wpOT, wpIt, z2, z3, mulS, evMulS, r1, r2, hp]
    repeat (refine ⟨by first | omega | decide | exact Nat.le_trans (m := 1000) (by decide) (by omega), ?_⟩)
    simp only [ofS_eq, S_cat2]
    rfl
  rintro _ rfl
  refine cutS (fun δ => δ = [some sD, some (tapeD t1), a, some (.nd .lst true ((handL.take 13).map gD)), none, none, none, none]) (by repeat' (first | exact True.intro | (refine pt_spl ?_ ?_) | (refine pt_ninS ?_ ?_) | (refine pt_mulS ?_ ?_) | (refine pt_crp ?_) | (refine pt_ch ?_ ?_ ?_) | (refine pt_kg ?_) | (refine pt_dsp ?_ ?_ ?_ ?_) | (exact pt_mvf) | (refine pt_rplD ?_ ?_ ?_ ?_) | (refine pt_E' ?_) | (exact fun h => nomatch h) | constructor)) ?_ ?_
  · have e : (handL.take 13).map gD = (handL.take 12).map gD ++ ((handL.drop 12).take 1).map gD := rfl
    have hl3 : ((handL.take 12).map gD).length = 12 := rfl
    rw [e]
    generalize (handL.take 12).map gD = X at *
    have r1 : repS ("9" : Str) (60 : Int) = S (List.replicate 60 57) := rep_9 60
    have r2 : repS ("9" : Str) (61 : Int) = S (List.replicate 61 57) := rep_9 61
    have hp : CPow 10 60 := ⟨by decide, by decide, by decide⟩
    simp [wpSs, Z.wpS, wpE, wpP, wpPT, wpT, wpEs, wpO, wpOT, wpIt, z2, z3, mulS, evMulS, r1, r2]
    repeat (refine ⟨by first | omega | decide | exact Nat.le_trans (m := 1000) (by decide) (by omega), ?_⟩)
    simp only [ofS_eq, S_cat2]
    rfl
  rintro _ rfl
  have hall : handL.take 13 = handL := rfl
  rw [hall]
  refine cutS (fun δ => ∃ a b c, δ = [some sD, some (tapeD t1), a, none, none, none, b, c]) (by repeat' (first | exact True.intro | (refine pt_spl ?_ ?_) | (refine pt_ninS ?_ ?_) | (refine pt_mulS ?_ ?_) | (refine pt_crp ?_) | (refine pt_ch ?_ ?_ ?_) | (refine pt_kg ?_) | (refine pt_dsp ?_ ?_ ?_ ?_) | (exact pt_mvf) | (refine pt_rplD ?_ ?_ ?_ ?_) | (refine pt_E' ?_) | (exact fun h => nomatch h) | constructor)) ?_ ?_
  · simp only [Z.wpS, wpIt, wpE]
    refine ⟨_, rfl, ?_⟩
    have hfg : frozL (handL.map gD) = true := frozL_at fun d hd => by
      obtain ⟨p, _, rfl⟩ := List.mem_map.mp hd
      simp [gD, fr_read]
    simp only [q_seq_l]
    refine ⟨hfg, ?_⟩
    simp only [List.set_cons_succ, List.set_cons_zero]
    refine forW_ix (fun i δ => ∃ a b c, δ = [some sD, some (tapeD t1), a, none, none, none, b, c]) _ _ 0 _ ⟨_, _, _, rfl⟩ ?_ ?_
    · rintro i d δ hd ⟨a, b, c, rfl⟩ k k1 _ _ _ _
      rw [List.getElem?_map] at hd
      obtain ⟨p, e1, rfl⟩ := Option.map_eq_some_iff.mp hd
      obtain ⟨hr, hpl⟩ := handL_ok p (List.mem_of_getElem? e1)
      have c1 : ct_called [tD p.1] (calledD p.2) none := ⟨p.1, rfl, by omega, by rw [hr], rfl⟩
      have hsz := sz_read (t := p.1) (by omega)
      rw [hr] at hsz
      have c3 := same_call (same_called p.2) hsz
      have hfp := fr_read p.2
      have k2 := k1 [some sD, some (tapeD t1), a, none, none, none, some (tD p.1), some (readD p.2)] ⟨_, _, _, rfl⟩
      simp [gD, wpSs, Z.wpS, wpE, wpP, wpPT, wpT, wpEs, wpO, wpOT, wpIt, h8, h13, hfp]
      exact ⟨_, ⟨_, c1⟩, _, ⟨_, c3⟩, by simpa using k2⟩
    · rintro δ ⟨a, b, c, rfl⟩
      exact ⟨_, rfl, a, b, c, rfl⟩
  rintro _ ⟨a, b, c, rfl⟩
  obtain ⟨m, t2, hm, ht2, hc2⟩ := pick_call ht1 (m := 2) (by decide) (by decide)
  have hm2 : m < 2 := by omega
  refine cutS (fun δ => δ = [some sD, some (tapeD t2), a, none, some (.at (.int m)), none, b, c]) (by repeat' (first | exact True.intro | (refine pt_spl ?_ ?_) | (refine pt_ninS ?_ ?_) | (refine pt_mulS ?_ ?_) | (refine pt_crp ?_) | (refine pt_ch ?_ ?_ ?_) | (refine pt_kg ?_) | (refine pt_dsp ?_ ?_ ?_ ?_) | (exact pt_mvf) | (refine pt_rplD ?_ ?_ ?_ ?_) | (refine pt_E' ?_) | (exact fun h => nomatch h) | constructor)) ?_ ?_
  · simp [wpSs, Z.wpS, wpE, wpP, wpPT, wpT, wpEs, wpO, wpOT, wpIt, h7]
    exact ⟨_, _, hc2, rfl, rfl⟩
  rintro _ rfl
  have r1 := rep_long m
  have r2 := rep_ask
  have r3 := rep_hash m
  have e9 : ("ask q 0 1" : Str) = S askT := ofS_eq _
  have l1 : (" " : Str).length * (1991 + (m : Int)).toNat ≤ 16777216 := by rw [len_sp]; omega
  have l2 : ("ask q 0 1\n" : Str).length * 399 ≤ 16777216 := by decide
  have l3 : ("#\n" : Str).length * (1 + (m : Int)).toNat ≤ 16777216 := by rw [show ("#\n" : Str).length = 2 from rfl]; omega
  have hsp : (sp (1991 + m)).length = 1991 + m := List.length_replicate
  have hat : askT.length = 9 := rfl
  refine cutS (fun δ => δ = [some sD, some (tapeD t2), a, none, some (.at (.int m)), some (tD (longT m)), b, c]) (by repeat' (first | exact True.intro | (refine pt_spl ?_ ?_) | (refine pt_ninS ?_ ?_) | (refine pt_mulS ?_ ?_) | (refine pt_crp ?_) | (refine pt_ch ?_ ?_ ?_) | (refine pt_kg ?_) | (refine pt_dsp ?_ ?_ ?_ ?_) | (exact pt_mvf) | (refine pt_rplD ?_ ?_ ?_ ?_) | (refine pt_E' ?_) | (exact fun h => nomatch h) | constructor)) ?_ ?_
  · simp [wpSs, Z.wpS, wpE, wpP, wpPT, wpT, wpEs, wpO, wpOT, wpIt, mulS, evMulS, r1, e9, l1, hsp, hat]
    repeat (refine ⟨by omega, ?_⟩)
    rfl
  rintro _ rfl
  have hbl := big_len hm2
  have hbd : (many (List.replicate 399 askT)).length + (many (List.replicate (1 + m) [35])).length ≤ 5000 := by
    unfold bigT at hbl
    rw [many_app, List.length_append] at hbl
    exact hbl
  refine cutS (fun δ => δ = [some sD, some (tapeD t2), a, none, some (.at (.int m)), some (tD (longT m)), some (tD (bigT m)), c]) (by repeat' (first | exact True.intro | (refine pt_spl ?_ ?_) | (refine pt_ninS ?_ ?_) | (refine pt_mulS ?_ ?_) | (refine pt_crp ?_) | (refine pt_ch ?_ ?_ ?_) | (refine pt_kg ?_) | (refine pt_dsp ?_ ?_ ?_ ?_) | (exact pt_mvf) | (refine pt_rplD ?_ ?_ ?_ ?_) | (refine pt_E' ?_) | (exact fun h => nomatch h) | constructor)) ?_ ?_
  · simp [wpSs, Z.wpS, wpE, wpP, wpPT, wpT, wpEs, wpO, wpOT, wpIt, mulS, evMulS, r2, r3, l2, l3, -List.reduceReplicate]
    repeat (refine ⟨by omega, ?_⟩)
    unfold bigT
    rw [many_app]
  rintro _ rfl
  refine cutS (fun δ => δ = [some sD, some (tapeD t2), a, none, some (.at (.int m)), some (tD (longT m)), some (tD (bigT m)), some (readD (bigE m))]) (by repeat' (first | exact True.intro | (refine pt_spl ?_ ?_) | (refine pt_ninS ?_ ?_) | (refine pt_mulS ?_ ?_) | (refine pt_crp ?_) | (refine pt_ch ?_ ?_ ?_) | (refine pt_kg ?_) | (refine pt_dsp ?_ ?_ ?_ ?_) | (exact pt_mvf) | (refine pt_rplD ?_ ?_ ?_ ?_) | (refine pt_E' ?_) | (exact fun h => nomatch h) | constructor)) ?_ ?_
  · have e5 : readD (.inr (List.replicate 399 askS)) = .nd .tup false [.at (.str "told"), .nd .tup false (List.replicate 399 [.nd .tup false [.at (.str "ask"), .at (.str "q"), .nd .tup false [.at (.int 0), .at (.int 1)]]]).flatten] := by
      simp only [readD, stL, List.map_replicate, List.flatten_replicate_singleton]
      rw [show stD askS = .nd .tup false [.at (.str "ask"), .at (.str "q"), .nd .tup false [.at (.int 0), .at (.int 1)]] from by simp [stD, askS, ofS_eq]]
    by_cases h0 : m = 0
    · subst h0
      rw [show bigE 0 = .inr (List.replicate 399 askS) from rfl, e5]
      simp [wpSs, Z.wpS, wpE, wpP, wpPT, wpT, wpEs, wpO, wpOT, wpIt, z2, z3, -List.reduceReplicate]
      repeat (refine ⟨by omega, ?_⟩)
      first | rfl | omega
    · have e6 : bigE m = .inl (401, "limit") := if_neg h0
      rw [e6]
      simp [wpSs, Z.wpS, wpE, wpP, wpPT, wpT, wpEs, wpO, wpOT, wpIt, h0, readD, z3]
  rintro _ rfl
  have hbb : (bigT m).length ≤ BIG := by omega
  have c1 : ct_called [tD (bigT m)] (calledD (bigE m)) none := ⟨bigT m, rfl, hbb, by rw [big_rd hm2], rfl⟩
  have hsz := sz_read (t := bigT m) (by omega)
  rw [big_rd hm2] at hsz
  have c3 := same_call (same_called (bigE m)) hsz
  have hfb := fr_read (bigE m)
  refine cutS (fun δ => δ = [some sD, some (tapeD t2), a, none, some (.at (.int m)), some (tD (longT m)), some (tD (bigT m)), some (readD (bigE m))]) (by repeat' (first | exact True.intro | (refine pt_spl ?_ ?_) | (refine pt_ninS ?_ ?_) | (refine pt_mulS ?_ ?_) | (refine pt_crp ?_) | (refine pt_ch ?_ ?_ ?_) | (refine pt_kg ?_) | (refine pt_dsp ?_ ?_ ?_ ?_) | (exact pt_mvf) | (refine pt_rplD ?_ ?_ ?_ ?_) | (refine pt_E' ?_) | (exact fun h => nomatch h) | constructor)) ?_ ?_
  · generalize bigT m = bt at *
    generalize bigE m = be at *
    simp [wpSs, Z.wpS, wpE, wpP, wpPT, wpT, wpEs, wpO, wpOT, wpIt, h8, h13, hfb]
    exact ⟨_, ⟨_, c1⟩, _, ⟨_, c3⟩, by simp⟩
  rintro _ rfl
  have hll : (longT m).length = 2000 + m := by unfold longT; rw [List.length_append, hsp, hat]; omega
  have c4 : ct_called [tD (35 :: 10 :: longT m)] (calledD (longE m)) none := ⟨_, rfl, by simp only [List.length_cons]; omega, by rw [long_rd hm2], rfl⟩
  have hos : StOks [askS] := ⟨fun s hs => by
    simp at hs; subst hs
    exact ⟨by decide, by decide, by decide, by decide, by decide, fun _ => rfl⟩, by decide⟩
  have c5 : ct_st [.nd .tup false (stL [askS])] (tD (many ([askS].map lineOf))) none := ⟨_, false, rfl, hos, rfl, rfl⟩
  have e10 : many ([askS].map lineOf) = askT ++ [10] := by decide +kernel
  have e11 : stL [askS] = [.nd .tup false [.at (.str "ask"), .at (.str "q"), .nd .tup false [.at (.int 0), .at (.int 1)]]] := by simp [stL, stD, askS, ofS_eq]
  rw [e10, e11] at c5
  have e12 : ("ask q 0 1\n" : Str) = S (askT ++ [10]) := ofS_eq _
  have e13 : ("#\n" : Str) = S [35, 10] := ofS_eq _
  have c6 := same_call (x := .nd .tup false [calledD (longE m), tD (askT ++ [10])]) (y := .nd .tup false [readD (longE m), tD (askT ++ [10])]) (by
    have := same_called (longE m)
    simp [same, sames, this]) (by
    have : szD (readD (longE m)) ≤ 100 := by
      have : m = 0 ∨ m = 1 := by omega
      rcases this with rfl | rfl <;> decide +kernel
    simp only [szD, szL]
    omega)
  have e14 : (if m = 0 then D.nd .tup false [.at (.str "told"), .nd .tup false [.nd .tup false [.at (.str "ask"), .at (.str "q"), .nd .tup false [.at (.int 0), .at (.int 1)]]]] else .nd .tup false [.at (.str "line"), .at (.int 2), .at (.str "limit")]) = readD (longE m) := by
    unfold longE
    split
    · rw [← e11]; rfl
    · rfl
  generalize longT m = lt at *
  simp only [wpSs, Z.wpS, wpE, wpP, wpPT, wpT, wpEs, wpO, wpOT, wpIt, h3, h8, h13]
  simp [z2, z3, e12, e13]
  refine ⟨by omega, _, ⟨_, c4⟩, by omega, _, ⟨_, c5⟩, ?_⟩
  by_cases h0 : m = 0
  · rw [if_pos h0] at e14
    rw [if_pos h0, e14]
    exact ⟨by omega, _, c6⟩
  · rw [if_neg h0] at e14
    rw [if_neg h0, e14]
    exact ⟨_, c6⟩
end K07
set_option Elab.async false
set_option linter.all false
set_option maxRecDepth 100000
set_option autoImplicit false
set_option maxHeartbeats 4000000
namespace K07
open PySem PySem.Spec PyProof.Rows L2 Z
section
variable {P : Program} {w : World} {K : PySem.W.Frag} {mg : Str → Option Value} {base : Heap} {Cb fI : Addr}
def GR : Nat → Ct
  | 0 => ct_tl
  | 1 => ct_ns
  | 2 => ct_wi
  | 4 => ct_rs
  | _ => fun _ _ _ => False
theorem ok_need_short {f : Addr} {fd : FuncData} {k : Nat} {u : Value} (T : ZX.XTxt P K mg Cb fI) (F : FunD K "need_short" "need_short" (defArgs sneed_short) (defBody sneed_short) (defScope sneed_short) [.int 400] [] f fd) (bl : ∀ x ∈ BL, mg x = none) (g : mg "LINE_MOST" = some u) (t : RelV (.int 2000) u) :
    FnOk P w K mg base (L2.CX P w) (k + 1) f fd ["number", "line", "most"] (spR K mg "BadLine" "line" "word" 3 ct_ns3) :=
  def_okRD (BL := BL) (FT := FT) (av := []) (Γ := GR) F cneed_short bl FnsOk.nil (fun X h1 h2 h3 h4 h5 hr C => rneed_short C ⟨by rw [h1]; exact g, t⟩ (by rw [h4, h2, h1]; exact T) hr) (l_ns (Γ := GR))
theorem ok_read_step {f : Addr} {fd : FuncData} {k j : Nat} (T : ZX.XTxt P K mg Cb fI) (F : Fun K "read_step" "read_step" sread_step f fd) (bl : ∀ x ∈ BL, mg x = none) (M2 : ModF P w K mg base j ⟨"written_integer", 1, none, []⟩ ct_wi) (hj : j ≤ k) :
    FnOk P w K mg base (L2.CX P w) (k + 1) f fd ["number", "words"] (spR K mg "BadLine" "line" "word" 2 ct_rs) :=
  def_okR F cread_step bl (FnsOk.cons (Γ := GR) (i := 2) M2 rfl hj FnsOk.nil) (fun X h1 h2 h3 h4 h5 hr C => rread_step C (by rw [h4, h2, h1]; exact T) hr) (l_rs (Γ := GR) rfl)
theorem ns_len : ∀ ds r o, ct_ns ds r o → ds.length = 2 := by rintro ds r o ⟨n, l, rfl, _⟩; rfl
theorem rs_len : ∀ ds r o, ct_rs ds r o → ds.length = 2 := by rintro ds r o ⟨n, l, rfl, _⟩; rfl
theorem ns_to3 : ∀ ds r o, ct_ns ds r o → ct_ns3 (ds ++ [V.int 400].map D.at) r o := by
  rintro ds r o ⟨n, l, rfl, h1, h2⟩
  exact ⟨n, l, 400, rfl, h1, h2⟩
theorem ok_read_script {f f1 f4 : Addr} {fd fd1 fd4 : FuncData} {k j0 j1 j4 : Nat} (F : Fun K "read_script" "read_script" sread_script f fd) (bl : ∀ x ∈ BL, mg x = none) (M0 : ModF P w K mg base j0 ⟨"told_lines", 1, none, []⟩ ct_tl) (h0 : j0 ≤ k)
    (F1 : FunD K "need_short" "need_short" (defArgs sneed_short) (defBody sneed_short) (defScope sneed_short) [.int 400] [] f1 fd1) (G1 : FnOk P w K mg base (L2.CX P w) j1 f1 fd1 ["number", "line", "most"] (spR K mg "BadLine" "line" "word" 3 ct_ns3)) (m1 : mg "need_short" = some (.ref f1)) (k1 : PySem.W.keepIn K (.ref f1) = true) (h1 : j1 ≤ k)
    (G4 : FnOk P w K mg base (L2.CX P w) j4 f4 fd4 ["number", "words"] (spR K mg "BadLine" "line" "word" 2 ct_rs)) (m4 : mg "read_step" = some (.ref f4)) (k4 : PySem.W.keepIn K (.ref f4) = true) (b4 : Binds K fd4 ["number", "words"] []) (h4 : j4 ≤ k) :
    FnOk P w K mg base (L2.CX P w) (k + 1) f fd ["text"] (spR K mg "BadLine" "line" "word" 1 ct_rsc) := by
  obtain ⟨us, hv, hb⟩ := F1.binds1 (ps := ["number", "line", "most"]) 2 0 (by simp) rfl (fun T kV doc pm an cdv ct us its hl hi => by
    match us, its, hl, hi with
    | [a, b], [c], _, _ => exact ⟨_, rfl, rfl⟩)
  refine def_okR F cread_script bl (FnsOk.cons (Γ := GR) (i := 0) M0 rfl h0 FnsOk.nil) (fun X e1 e2 e3 e4 e5 hr C => rread_script C ⟨ns_len, k, f1, fd1, ["number", "line", "most"], 3, ct_ns3, [.int 400], us, ?_, hr, ?_, ?_, ?_, hv, rfl, ns_to3⟩ ⟨rs_len, k, f4, fd4, ["number", "words"], ?_, hr, ?_, ?_, ?_⟩) (l_rsc (Γ := GR) rfl rfl rfl)
  · rw [e1, e2, e3, e4, e5]; exact G1.mono h1
  · rw [e1]; exact m1
  · rw [e2]; exact k1
  · rw [e2]; exact hb
  · rw [e1, e2, e3, e4, e5]; exact G4.mono h4
  · rw [e1]; exact m4
  · rw [e2]; exact k4
  · rw [e2]; exact b4
theorem len_called : ∀ ds r o, ct_called ds r o → ds.length = 1 := by rintro ds r o ⟨t, rfl, _⟩; rfl
theorem ok_law_called {f fc KE : Addr} {fd fdc : FuncData} {k j : Nat} (T : ZX.XTxt P K mg Cb fI) (I : IsX K Cb KE) (gK : mg "KeepError" = some (.ref KE)) (bl : ∀ x ∈ BL, mg x = none) (F : Fun K "_law_called" "_law_called" s_law_called f fd) (G : FnOk P w K mg base (L2.CX P w) j fc fdc ["text"] (spR K mg "BadLine" "line" "word" 1 ct_rsc)) (hj : j ≤ k)
    (hmc : mg "read_script" = some (.ref fc)) (hkc : PySem.W.keepIn K (.ref fc) = true) (hbc : Binds K fdc ["text"] []) :
    FnOk P w K mg base CX0 (k + 1) f fd ["text"] (spOf K 1 none ct_called) := by
  have hxf : XfC K Cb := ⟨T.ga, T.gg, T.exC, T.hdC⟩
  have hex := exm_own T.exC I.cl T.tyC T.slf
  have hbi : mg "isinstance" = none := bl _ (by decide)
  refine F.ok c_law_called (fun vs H Q E h => ?_) (fun cdv A outer s H vs Q E hr hsp => ?_)
  · obtain ⟨_, _, _, _, h, _⟩ := h; exact h
  · refine ⟨_, pss_one (ps_try_fst (i := 1) (tb := fun W => tRet (tTup (tCons (tC (.str "told")) (tCons (tCallS (spR K mg "BadLine" "line" "word" 1 ct_rsc) (L2.WE W) (tCons (tVar 0) tNil)) tNil)))) (ts := fun a cls d => if cls = .ref Cb then tSuiteX Cb KE "line" "line" "word" 1 a cls d else fun _ _ _ => False) (c := .ref Cb) rfl rfl c_law_called.nd rfl rfl ⟨rfl, by decide, .inl T.gC⟩
        (fun W pn xe tk _ => pss_one (ps_ret (pe_tup (pa_cons pe_str (pa_cons (pe_callS (G.mono hj) hr rfl hmc hkc hbc (fun σ => passAt tk σ) (pa_cons (pv 0) pa_nil)) pa_nil)))))
        (fun a oe cls d pn hz hf => ?_)), ?_⟩
    · by_cases hc : cls = .ref Cb
      · subst hc
        rw [if_pos rfl]
        exact pss_one (ps_ret (pe_ifExp (pt_val (pe_callB (call_isX hxf I hz hf) rfl hbi rfl (pa_cons (pv 1) (pa_cons (pe_glob rfl gK rfl) pa_nil)))) (pe_tup (pa_cons pe_str (pa_cons (pe_xf hxf T.n1 hz hf (pv 1)) (pa_cons (pe_xf hxf T.n2 hz hf (pv 1)) pa_nil)))) (pe_tup (pa_cons pe_str pa_nil))))
      · rw [if_neg hc]
        exact ⟨fun _ _ _ _ _ _ h => h.elim⟩
    obtain ⟨ds, Fr, r, o, hn, hl, g, ⟨t, rfl, ht, rfl, rfl⟩, q⟩ := hsp
    have z2 := size2
    have z3 := size3
    match vs, hn, hl, g with
    | [a], _, hl, g =>
      refine ⟨a, rfl, ?_⟩
      show spR K mg "BadLine" "line" "word" 1 ct_rsc [a] H _ _
      cases hrd : rd 0 (ln t) with
      | inr ss =>
        rw [hrd] at q
        refine ⟨[tD t], Fr, .nd .tup true (stL ss), none, rfl, hl, g, ⟨t, rfl, ht, by rw [hrd]; exact ⟨rfl, rfl⟩⟩, fun _ v H' g1 => ?_, fun v1 v2 C e => absurd rfl e⟩
        refine ⟨z2, fun p np => q (.ref p) _ ?_⟩
        have g2 : Z.Good K H' (vals [V.str "told", v] [.at (.str "told"), .nd .tup true (stL ss)] ++ Fr) := Good.mkat g1
        exact Good.mktup (o := false) (ds := [.at (.str "told"), .nd .tup true (stL ss)]) (by simp [fr_stL]) upd_same (g2.same (same_new np))
      | inl p =>
        obtain ⟨m, w0⟩ := p
        rw [hrd] at q
        refine ⟨[tD t], Fr, .nd .tup false [.at (.int m), .at (.str w0)], some (.at .non), rfl, hl, g, ⟨t, rfl, ht, by rw [hrd]; exact ⟨rfl, rfl⟩⟩, fun e => (by cases e), fun v1 v2 C _ er hm d H' g1 => ?_⟩
        cases er
        have hC : C = Cb := by rw [T.gC] at hm; cases hm; rfl
        subst hC
        refine ⟨hex, fun a0 ha0 => ?_⟩
        have hd : H' d = some (.xd [(("word" : Str), .str w0), (("line" : Str), .int m)]) := by
          obtain ⟨O, Z, hO, _, _⟩ := g1
          cases hO with
          | cons h1 _ => cases h1 with | cell h _ => exact h
        show (if (Value.ref C) = Value.ref C then tSuiteX C KE "line" "line" "word" 1 a0 (.ref C) (some d) else fun _ _ _ => False) _ _ _
        rw [if_pos rfl]
        refine ⟨.ref a0, rfl, rfl, d, _, rfl, hd, ?_⟩
        refine ⟨true, rfl, ?_⟩
        show tTup (tCons (tC (.str "line")) (tCons (tXf a0 (.ref C) (some d) C "line" (tVar 1)) (tCons (tXf a0 (.ref C) (some d) C "word" (tVar 1)) tNil))) _ _ _
        refine ⟨.ref a0, rfl, rfl, rfl, d, _, .int m, rfl, hd, by simp [List.lookup, show (("line" : Str) == ("word" : Str)) = false by decide], ?_⟩
        refine ⟨.ref a0, rfl, rfl, rfl, d, _, .str w0, rfl, hd, by simp [List.lookup], ?_⟩
        refine ⟨z3, fun pp np => q (.ref pp) _ ?_⟩
        have g2 : Z.Good K H' Fr := g1.drop
        have g3 : Z.Good K H' (vals [V.str "line", V.int m, V.str w0] [.at (.str "line"), .at (.int m), .at (.str w0)] ++ Fr) := Good.mkat (Good.mkat (Good.mkat g2))
        exact Good.mktup (o := false) (ds := [.at (.str "line"), .at (.int m), .at (.str w0)]) rfl upd_same (g3.same (same_new np))
end
end K07
set_option Elab.async false
set_option linter.all false
set_option maxRecDepth 100000
set_option autoImplicit false
namespace K07
open PySem L2 Z
theorem l_tape : ∀ ds r o, ct_tape ds r o → ds.length = 1 ∧ wpSs G0 b_law_tape (startD 7 ds) (retW none r o) := l_ofG
theorem l_num : ∀ ds r o, ct_num ds r o → ds.length = 1 ∧ wpSs Gp b_law_number (startD 2 ds) (retW (some 0) r o) := l_ofG
theorem l_drawn : ∀ ds r o, ct_drawn ds r o → ds.length = 1 ∧ wpSs G2 b_law_drawn (startD 7 ds) (retW (some 0) r o) := l_ofG
theorem l_loose : ∀ ds r o, ct_loose ds r o → ds.length = 2 ∧ wpSs Gp (b_law_loose Gp) (startD 4 ds) (retW (some 0) r o) := l_ofG
theorem l_spoilt : ∀ ds r o, ct_spoilt ds r o → ds.length = 2 ∧ wpSs Gp b_law_spoilt (startD 8 ds) (retW (some 0) r o) := l_ofG
theorem l_asked : ∀ ds r o, ct_asked ds r o → ds.length = 1 ∧ wpSs G3 b_law_asked (startD 6 ds) (retW (some 0) r o) := l_ofG
end K07
set_option Elab.async false
set_option linter.all false
set_option maxRecDepth 100000
set_option autoImplicit false
namespace K07
open PySem PySem.Spec PyProof.Rows L2 Z
/-! ## the head -/
def Gam : Nat → Ct
  | 0 => ct_tl
  | 1 => ct_ns
  | 2 => ct_wi
  | 3 => ct_st
  | 4 => ct_rs
  | 5 => ct_rsc
  | 6 => ct_tape
  | 7 => ct_pick
  | 8 => ct_same
  | 10 => ct_ll
  | 11 => ct_li
  | 12 => ct_lr
  | 13 => ct_called
  | 14 => ct_num
  | 15 => ct_drawn
  | 16 => ct_loose
  | 17 => ct_spoilt
  | 18 => ct_asked
  | 19 => ct_law
  | _ => fun _ _ _ => False
section
variable {P : Program} {w : World} {K : PySem.W.Frag} {mg : Str → Option Value} {base : Heap}
theorem ok_told_lines {f : Addr} {fd : FuncData} (F : Fun K "told_lines" "told_lines" stold_lines f fd) (bl : ∀ x ∈ BL, mg x = none) : FnOk P w K mg base CX0 1 f fd ["text"] (spOf K 1 (none) ct_tl) :=
  def_ok (Γ := Gam) F ctold_lines bl FnsOk.nil (fun X C => rtold_lines C) (l_tl (Γ := Gam))
theorem ok_written_integer {f : Addr} {fd : FuncData} (F : Fun K "written_integer" "written_integer" swritten_integer f fd) (bl : ∀ x ∈ BL, mg x = none) {uWRITTEN_MOST : Value} (gWRITTEN_MOST : mg "WRITTEN_MOST" = some uWRITTEN_MOST) (tWRITTEN_MOST : RelV (.int 60) uWRITTEN_MOST) {uFIGURES : Value} (gFIGURES : mg "FIGURES" = some uFIGURES) (tFIGURES : RelV (.str "0123456789") uFIGURES) : FnOk P w K mg base CX0 1 f fd ["word"] (spOf K 1 (none) ct_wi) :=
  def_okG (Γ := Gam) F cwritten_integer bl FnsOk.nil (fun X h1 h2 h3 h4 C => rwritten_integer C ⟨by rw [h1]; exact gWRITTEN_MOST, by exact tWRITTEN_MOST⟩ ⟨by rw [h1]; exact gFIGURES, by exact tFIGURES⟩) (l_wi (Γ := Gam))
theorem ok_script_text {f : Addr} {fd : FuncData} (F : Fun K "script_text" "script_text" sscript_text f fd) (bl : ∀ x ∈ BL, mg x = none) : FnOk P w K mg base CX0 1 f fd ["script"] (spOf K 1 (none) ct_st) :=
  def_ok (Γ := Gam) F cscript_text bl FnsOk.nil (fun X C => rscript_text C) (l_st (Γ := Gam))
theorem ok__law_tape {f : Addr} {fd : FuncData} (F : Fun K "_law_tape" "_law_tape" s_law_tape f fd) (bl : ∀ x ∈ BL, mg x = none) : FnOk P w K mg base CX0 1 f fd ["script"] (spOf K 1 (none) ct_tape) :=
  def_ok (Γ := G0) F c_law_tape bl FnsOk.nil (fun X C => r_law_tape C) (l_tape)
theorem ok__law_pick {f : Addr} {fd : FuncData} (F : Fun K "_law_pick" "_law_pick" s_law_pick f fd) (bl : ∀ x ∈ BL, mg x = none) : FnOk P w K mg base CX0 1 f fd ["tape", "many"] (spOf K 2 (some 0) ct_pick) :=
  def_ok (Γ := Gam) F c_law_pick bl FnsOk.nil (fun X C => r_law_pick C) (l_pick (Γ := Gam))
theorem ok__law_same {f : Addr} {fd : FuncData} (F : Fun K "_law_same" "_law_same" s_law_same f fd) (bl : ∀ x ∈ BL, mg x = none) : FnOk P w K mg base CX0 1 f fd ["told", "due"] (spOf K 2 (none) ct_same) :=
  def_ok (Γ := Gam) F c_law_same bl FnsOk.nil (fun X C => r_law_same C) (l_same (Γ := Gam))
theorem ok__law_lines {f : Addr} {fd : FuncData} (F : Fun K "_law_lines" "_law_lines" s_law_lines f fd) (bl : ∀ x ∈ BL, mg x = none) : FnOk P w K mg base CX0 1 f fd ["steps"] (spOf K 1 (none) ct_ll) :=
  def_ok (Γ := Gam) F c_law_lines bl FnsOk.nil (fun X C => r_law_lines C) (l_ll (Γ := Gam))
theorem ok__law_integer {f : Addr} {fd : FuncData} (F : Fun K "_law_integer" "_law_integer" s_law_integer f fd) (bl : ∀ x ∈ BL, mg x = none) : FnOk P w K mg base CX0 1 f fd ["word"] (spOf K 1 (none) ct_li) :=
  def_ok (Γ := Gam) F c_law_integer bl FnsOk.nil (fun X C => r_law_integer C) (l_li (Γ := Gam))
theorem ok__law_read {f : Addr} {fd : FuncData} (F : Fun K "_law_read" "_law_read" s_law_read f fd) (bl : ∀ x ∈ BL, mg x = none) (M11 : ModF P w K mg base 1 ⟨"_law_integer", 1, none, []⟩ ct_li) : FnOk P w K mg base CX0 2 f fd ["text"] (spOf K 1 (none) ct_lr) :=
  def_ok (Γ := Gam) F c_law_read bl (FnsOk.cons (Γ := Gam) (i := 11) M11 rfl (by decide) FnsOk.nil) (fun X C => r_law_read C) (l_lr (Γ := Gam) rfl)
theorem ok__law_number {f : Addr} {fd : FuncData} (F : Fun K "_law_number" "_law_number" s_law_number f fd) (bl : ∀ x ∈ BL, mg x = none) (M7 : ModF P w K mg base 1 ⟨"_law_pick", 2, some 0, []⟩ ct_pick) : FnOk P w K mg base CX0 2 f fd ["tape"] (spOf K 1 (some 0) ct_num) :=
  def_ok (Γ := Gp) F c_law_number bl (FnsOk.cons (Γ := Gp) (i := 7) M7 rfl (by decide) FnsOk.nil) (fun X C => r_law_number C) (l_num)
theorem ok__law_loose {f : Addr} {fd : FuncData} (F : Fun K "_law_loose" "_law_loose" s_law_loose f fd) (bl : ∀ x ∈ BL, mg x = none) (gNB : NBk K) (M7 : ModF P w K mg base 1 ⟨"_law_pick", 2, some 0, []⟩ ct_pick) : FnOk P w K mg base CX0 2 f fd ["tape", "lines"] (spOf K 2 (some 0) ct_loose) :=
  def_okG (Γ := Gp) F c_law_loose bl (FnsOk.cons (Γ := Gp) (i := 7) M7 rfl (by decide) FnsOk.nil) (fun X h1 h2 h3 h4 C => r_law_loose C (by rw [h2]; exact gNB)) (l_loose)
theorem ok__law_spoilt {f : Addr} {fd : FuncData} (F : Fun K "_law_spoilt" "_law_spoilt" s_law_spoilt f fd) (bl : ∀ x ∈ BL, mg x = none) (M7 : ModF P w K mg base 1 ⟨"_law_pick", 2, some 0, []⟩ ct_pick) : FnOk P w K mg base CX0 2 f fd ["tape", "lines"] (spOf K 2 (some 0) ct_spoilt) :=
  def_ok (Γ := Gp) F c_law_spoilt bl (FnsOk.cons (Γ := Gp) (i := 7) M7 rfl (by decide) FnsOk.nil) (fun X C => r_law_spoilt C) (l_spoilt)
theorem ok__law_drawn {f : Addr} {fd : FuncData} (F : Fun K "_law_drawn" "_law_drawn" s_law_drawn f fd) (bl : ∀ x ∈ BL, mg x = none) (M7 : ModF P w K mg base 1 ⟨"_law_pick", 2, some 0, []⟩ ct_pick) (M14 : ModF P w K mg base 2 ⟨"_law_number", 1, some 0, []⟩ ct_num) : FnOk P w K mg base CX0 3 f fd ["tape"] (spOf K 1 (some 0) ct_drawn) :=
  def_ok (Γ := G2) F c_law_drawn bl (FnsOk.cons (Γ := G2) (i := 7) M7 rfl (by decide) (FnsOk.cons (Γ := G2) (i := 14) M14 rfl (by decide) FnsOk.nil)) (fun X C => r_law_drawn C) (l_drawn)
theorem ok__law_asked {f : Addr} {fd : FuncData} (F : Fun K "_law_asked" "_law_asked" s_law_asked f fd) (bl : ∀ x ∈ BL, mg x = none) (M3 : ModF P w K mg base 1 ⟨"script_text", 1, none, [(["script"], [0])]⟩ ct_st) (M8 : ModF P w K mg base 1 ⟨"_law_same", 2, none, []⟩ ct_same) (M10 : ModF P w K mg base 1 ⟨"_law_lines", 1, none, []⟩ ct_ll) (M12 : ModF P w K mg base 2 ⟨"_law_read", 1, none, []⟩ ct_lr) (M13 : ModF P w K mg base 4 ⟨"_law_called", 1, none, []⟩ ct_called) (M15 : ModF P w K mg base 3 ⟨"_law_drawn", 1, some 0, []⟩ ct_drawn) (M16 : ModF P w K mg base 2 ⟨"_law_loose", 2, some 0, []⟩ ct_loose) (M17 : ModF P w K mg base 2 ⟨"_law_spoilt", 2, some 0, []⟩ ct_spoilt) : FnOk P w K mg base CX0 5 f fd ["tape"] (spOf K 1 (some 0) ct_asked) :=
  def_ok (Γ := G3) F c_law_asked bl (FnsOk.cons (Γ := G3) (i := 3) M3 rfl (by decide) (FnsOk.cons (Γ := G3) (i := 8) M8 rfl (by decide) (FnsOk.cons (Γ := G3) (i := 10) M10 rfl (by decide) (FnsOk.cons (Γ := G3) (i := 12) M12 rfl (by decide) (FnsOk.cons (Γ := G3) (i := 13) M13 rfl (by decide) (FnsOk.cons (Γ := G3) (i := 15) M15 rfl (by decide) (FnsOk.cons (Γ := G3) (i := 16) M16 rfl (by decide) (FnsOk.cons (Γ := G3) (i := 17) M17 rfl (by decide) FnsOk.nil)))))))) (fun X C => r_law_asked C) (l_asked)
theorem ok_law {f : Addr} {fd : FuncData} (F : Fun K "law" "law" slaw f fd) (bl : ∀ x ∈ BL, mg x = none) (M3 : ModF P w K mg base 1 ⟨"script_text", 1, none, [(["script"], [0])]⟩ ct_st) (M6 : ModF P w K mg base 1 ⟨"_law_tape", 1, none, []⟩ ct_tape) (M7 : ModF P w K mg base 1 ⟨"_law_pick", 2, some 0, []⟩ ct_pick) (M8 : ModF P w K mg base 1 ⟨"_law_same", 2, none, []⟩ ct_same) (M13 : ModF P w K mg base 4 ⟨"_law_called", 1, none, []⟩ ct_called) (M18 : ModF P w K mg base 5 ⟨"_law_asked", 1, some 0, []⟩ ct_asked) : FnOk P w K mg base CX0 6 f fd ["script"] (spOf K 1 (none) ct_law) :=
  def_ok (Γ := G4) F claw bl (FnsOk.cons (Γ := G4) (i := 3) M3 rfl (by decide) (FnsOk.cons (Γ := G4) (i := 6) M6 rfl (by decide) (FnsOk.cons (Γ := G4) (i := 7) M7 rfl (by decide) (FnsOk.cons (Γ := G4) (i := 8) M8 rfl (by decide) (FnsOk.cons (Γ := G4) (i := 13) M13 rfl (by decide) (FnsOk.cons (Γ := G4) (i := 18) M18 rfl (by decide) FnsOk.nil)))))) (fun X C => rlaw C) (l_law)
theorem all_mk {l : PySem.W.OpenLaw} {w : World} {K : PySem.W.Frag} {h : Heap} {mg : Str → Option Value} {fa : Addr} (X : K.In h) (G : h.Ns mainGlobals mg) (hfa : mg "law" = some (.ref fa))
    {f0 : Addr} {od0 an0 : Option Addr} {sl0 : Array (Option Value)} {oc0 kV0 dc0 pm0 cd0 ct0 : Value}
    (a0 : PySem.W.nsIn K mainGlobals "told_lines" = some (some (.ref f0))) (l0 : K.lookup f0 = some ⟨oc0, od0, .func (PySem.W.fnOf "told_lines" "told_lines" (defArgs stold_lines) (defBody stold_lines) (defScope stold_lines) .none kV0 dc0 pm0 an0 cd0 ct0), sl0⟩) (c0 : PySem.W.codeIn K cd0 "told_lines" = true) (k0 : PySem.W.keepIn K (.ref f0) = true)
    {f1 : Addr} {od1 an1 : Option Addr} {sl1 : Array (Option Value)} {oc1 kV1 dc1 pm1 cd1 ct1 : Value}
    {T1 : Addr} {oT1 : Value} {dT1 : Option Addr} {sT1 : Array (Option Value)} {tT1 : Tok} {nT1 : Nat}
    (a1 : PySem.W.nsIn K mainGlobals "need_short" = some (some (.ref f1))) (l1 : K.lookup f1 = some ⟨oc1, od1, .func (PySem.W.fnOf "need_short" "need_short" (defArgs sneed_short) (defBody sneed_short) (defScope sneed_short) (.ref T1) kV1 dc1 pm1 an1 cd1 ct1), sl1⟩) (c1 : PySem.W.codeIn K cd1 "need_short" = true) (k1 : PySem.W.keepIn K (.ref f1) = true)
    (lT1 : K.lookup T1 = some ⟨oT1, dT1, .seq #[.int 400 tT1] nT1, sT1⟩)
    {f2 : Addr} {od2 an2 : Option Addr} {sl2 : Array (Option Value)} {oc2 kV2 dc2 pm2 cd2 ct2 : Value}
    (a2 : PySem.W.nsIn K mainGlobals "written_integer" = some (some (.ref f2))) (l2 : K.lookup f2 = some ⟨oc2, od2, .func (PySem.W.fnOf "written_integer" "written_integer" (defArgs swritten_integer) (defBody swritten_integer) (defScope swritten_integer) .none kV2 dc2 pm2 an2 cd2 ct2), sl2⟩) (c2 : PySem.W.codeIn K cd2 "written_integer" = true) (k2 : PySem.W.keepIn K (.ref f2) = true)
    {f3 : Addr} {od3 an3 : Option Addr} {sl3 : Array (Option Value)} {oc3 kV3 dc3 pm3 cd3 ct3 : Value}
    (a3 : PySem.W.nsIn K mainGlobals "script_text" = some (some (.ref f3))) (l3 : K.lookup f3 = some ⟨oc3, od3, .func (PySem.W.fnOf "script_text" "script_text" (defArgs sscript_text) (defBody sscript_text) (defScope sscript_text) .none kV3 dc3 pm3 an3 cd3 ct3), sl3⟩) (c3 : PySem.W.codeIn K cd3 "script_text" = true) (k3 : PySem.W.keepIn K (.ref f3) = true)
    {f6 : Addr} {od6 an6 : Option Addr} {sl6 : Array (Option Value)} {oc6 kV6 dc6 pm6 cd6 ct6 : Value}
    (a6 : PySem.W.nsIn K mainGlobals "_law_tape" = some (some (.ref f6))) (l6 : K.lookup f6 = some ⟨oc6, od6, .func (PySem.W.fnOf "_law_tape" "_law_tape" (defArgs s_law_tape) (defBody s_law_tape) (defScope s_law_tape) .none kV6 dc6 pm6 an6 cd6 ct6), sl6⟩) (c6 : PySem.W.codeIn K cd6 "_law_tape" = true) (k6 : PySem.W.keepIn K (.ref f6) = true)
    {f7 : Addr} {od7 an7 : Option Addr} {sl7 : Array (Option Value)} {oc7 kV7 dc7 pm7 cd7 ct7 : Value}
    (a7 : PySem.W.nsIn K mainGlobals "_law_pick" = some (some (.ref f7))) (l7 : K.lookup f7 = some ⟨oc7, od7, .func (PySem.W.fnOf "_law_pick" "_law_pick" (defArgs s_law_pick) (defBody s_law_pick) (defScope s_law_pick) .none kV7 dc7 pm7 an7 cd7 ct7), sl7⟩) (c7 : PySem.W.codeIn K cd7 "_law_pick" = true) (k7 : PySem.W.keepIn K (.ref f7) = true)
    {f8 : Addr} {od8 an8 : Option Addr} {sl8 : Array (Option Value)} {oc8 kV8 dc8 pm8 cd8 ct8 : Value}
    (a8 : PySem.W.nsIn K mainGlobals "_law_same" = some (some (.ref f8))) (l8 : K.lookup f8 = some ⟨oc8, od8, .func (PySem.W.fnOf "_law_same" "_law_same" (defArgs s_law_same) (defBody s_law_same) (defScope s_law_same) .none kV8 dc8 pm8 an8 cd8 ct8), sl8⟩) (c8 : PySem.W.codeIn K cd8 "_law_same" = true) (k8 : PySem.W.keepIn K (.ref f8) = true)
    {f10 : Addr} {od10 an10 : Option Addr} {sl10 : Array (Option Value)} {oc10 kV10 dc10 pm10 cd10 ct10 : Value}
    (a10 : PySem.W.nsIn K mainGlobals "_law_lines" = some (some (.ref f10))) (l10 : K.lookup f10 = some ⟨oc10, od10, .func (PySem.W.fnOf "_law_lines" "_law_lines" (defArgs s_law_lines) (defBody s_law_lines) (defScope s_law_lines) .none kV10 dc10 pm10 an10 cd10 ct10), sl10⟩) (c10 : PySem.W.codeIn K cd10 "_law_lines" = true) (k10 : PySem.W.keepIn K (.ref f10) = true)
    {f11 : Addr} {od11 an11 : Option Addr} {sl11 : Array (Option Value)} {oc11 kV11 dc11 pm11 cd11 ct11 : Value}
    (a11 : PySem.W.nsIn K mainGlobals "_law_integer" = some (some (.ref f11))) (l11 : K.lookup f11 = some ⟨oc11, od11, .func (PySem.W.fnOf "_law_integer" "_law_integer" (defArgs s_law_integer) (defBody s_law_integer) (defScope s_law_integer) .none kV11 dc11 pm11 an11 cd11 ct11), sl11⟩) (c11 : PySem.W.codeIn K cd11 "_law_integer" = true) (k11 : PySem.W.keepIn K (.ref f11) = true)
    {f4 : Addr} {od4 an4 : Option Addr} {sl4 : Array (Option Value)} {oc4 kV4 dc4 pm4 cd4 ct4 : Value}
    (a4 : PySem.W.nsIn K mainGlobals "read_step" = some (some (.ref f4))) (l4 : K.lookup f4 = some ⟨oc4, od4, .func (PySem.W.fnOf "read_step" "read_step" (defArgs sread_step) (defBody sread_step) (defScope sread_step) .none kV4 dc4 pm4 an4 cd4 ct4), sl4⟩) (c4 : PySem.W.codeIn K cd4 "read_step" = true) (k4 : PySem.W.keepIn K (.ref f4) = true)
    {f12 : Addr} {od12 an12 : Option Addr} {sl12 : Array (Option Value)} {oc12 kV12 dc12 pm12 cd12 ct12 : Value}
    (a12 : PySem.W.nsIn K mainGlobals "_law_read" = some (some (.ref f12))) (l12 : K.lookup f12 = some ⟨oc12, od12, .func (PySem.W.fnOf "_law_read" "_law_read" (defArgs s_law_read) (defBody s_law_read) (defScope s_law_read) .none kV12 dc12 pm12 an12 cd12 ct12), sl12⟩) (c12 : PySem.W.codeIn K cd12 "_law_read" = true) (k12 : PySem.W.keepIn K (.ref f12) = true)
    {f14 : Addr} {od14 an14 : Option Addr} {sl14 : Array (Option Value)} {oc14 kV14 dc14 pm14 cd14 ct14 : Value}
    (a14 : PySem.W.nsIn K mainGlobals "_law_number" = some (some (.ref f14))) (l14 : K.lookup f14 = some ⟨oc14, od14, .func (PySem.W.fnOf "_law_number" "_law_number" (defArgs s_law_number) (defBody s_law_number) (defScope s_law_number) .none kV14 dc14 pm14 an14 cd14 ct14), sl14⟩) (c14 : PySem.W.codeIn K cd14 "_law_number" = true) (k14 : PySem.W.keepIn K (.ref f14) = true)
    {f16 : Addr} {od16 an16 : Option Addr} {sl16 : Array (Option Value)} {oc16 kV16 dc16 pm16 cd16 ct16 : Value}
    (a16 : PySem.W.nsIn K mainGlobals "_law_loose" = some (some (.ref f16))) (l16 : K.lookup f16 = some ⟨oc16, od16, .func (PySem.W.fnOf "_law_loose" "_law_loose" (defArgs s_law_loose) (defBody s_law_loose) (defScope s_law_loose) .none kV16 dc16 pm16 an16 cd16 ct16), sl16⟩) (c16 : PySem.W.codeIn K cd16 "_law_loose" = true) (k16 : PySem.W.keepIn K (.ref f16) = true)
    {f17 : Addr} {od17 an17 : Option Addr} {sl17 : Array (Option Value)} {oc17 kV17 dc17 pm17 cd17 ct17 : Value}
    (a17 : PySem.W.nsIn K mainGlobals "_law_spoilt" = some (some (.ref f17))) (l17 : K.lookup f17 = some ⟨oc17, od17, .func (PySem.W.fnOf "_law_spoilt" "_law_spoilt" (defArgs s_law_spoilt) (defBody s_law_spoilt) (defScope s_law_spoilt) .none kV17 dc17 pm17 an17 cd17 ct17), sl17⟩) (c17 : PySem.W.codeIn K cd17 "_law_spoilt" = true) (k17 : PySem.W.keepIn K (.ref f17) = true)
    {f5 : Addr} {od5 an5 : Option Addr} {sl5 : Array (Option Value)} {oc5 kV5 dc5 pm5 cd5 ct5 : Value}
    (a5 : PySem.W.nsIn K mainGlobals "read_script" = some (some (.ref f5))) (l5 : K.lookup f5 = some ⟨oc5, od5, .func (PySem.W.fnOf "read_script" "read_script" (defArgs sread_script) (defBody sread_script) (defScope sread_script) .none kV5 dc5 pm5 an5 cd5 ct5), sl5⟩) (c5 : PySem.W.codeIn K cd5 "read_script" = true) (k5 : PySem.W.keepIn K (.ref f5) = true)
    {f15 : Addr} {od15 an15 : Option Addr} {sl15 : Array (Option Value)} {oc15 kV15 dc15 pm15 cd15 ct15 : Value}
    (a15 : PySem.W.nsIn K mainGlobals "_law_drawn" = some (some (.ref f15))) (l15 : K.lookup f15 = some ⟨oc15, od15, .func (PySem.W.fnOf "_law_drawn" "_law_drawn" (defArgs s_law_drawn) (defBody s_law_drawn) (defScope s_law_drawn) .none kV15 dc15 pm15 an15 cd15 ct15), sl15⟩) (c15 : PySem.W.codeIn K cd15 "_law_drawn" = true) (k15 : PySem.W.keepIn K (.ref f15) = true)
    {f13 : Addr} {od13 an13 : Option Addr} {sl13 : Array (Option Value)} {oc13 kV13 dc13 pm13 cd13 ct13 : Value}
    (a13 : PySem.W.nsIn K mainGlobals "_law_called" = some (some (.ref f13))) (l13 : K.lookup f13 = some ⟨oc13, od13, .func (PySem.W.fnOf "_law_called" "_law_called" (defArgs s_law_called) (defBody s_law_called) (defScope s_law_called) .none kV13 dc13 pm13 an13 cd13 ct13), sl13⟩) (c13 : PySem.W.codeIn K cd13 "_law_called" = true) (k13 : PySem.W.keepIn K (.ref f13) = true)
    {f18 : Addr} {od18 an18 : Option Addr} {sl18 : Array (Option Value)} {oc18 kV18 dc18 pm18 cd18 ct18 : Value}
    (a18 : PySem.W.nsIn K mainGlobals "_law_asked" = some (some (.ref f18))) (l18 : K.lookup f18 = some ⟨oc18, od18, .func (PySem.W.fnOf "_law_asked" "_law_asked" (defArgs s_law_asked) (defBody s_law_asked) (defScope s_law_asked) .none kV18 dc18 pm18 an18 cd18 ct18), sl18⟩) (c18 : PySem.W.codeIn K cd18 "_law_asked" = true) (k18 : PySem.W.keepIn K (.ref f18) = true)
    {f19 : Addr} {od19 an19 : Option Addr} {sl19 : Array (Option Value)} {oc19 kV19 dc19 pm19 cd19 ct19 : Value}
    (a19 : PySem.W.nsIn K mainGlobals "law" = some (some (.ref f19))) (l19 : K.lookup f19 = some ⟨oc19, od19, .func (PySem.W.fnOf "law" "law" (defArgs slaw) (defBody slaw) (defScope slaw) .none kV19 dc19 pm19 an19 cd19 ct19), sl19⟩) (c19 : PySem.W.codeIn K cd19 "law" = true) (k19 : PySem.W.keepIn K (.ref f19) = true)
    {tLINE_MOST : Tok} (aLINE_MOST : PySem.W.nsIn K mainGlobals "LINE_MOST" = some (some (.int 2000 tLINE_MOST)))
    {tWRITTEN_MOST : Tok} (aWRITTEN_MOST : PySem.W.nsIn K mainGlobals "WRITTEN_MOST" = some (some (.int 60 tWRITTEN_MOST)))
    {tFIGURES : Tok} (aFIGURES : PySem.W.nsIn K mainGlobals "FIGURES" = some (some (.str "0123456789" tFIGURES)))
    {ocB : Value} {odB : Option Addr} {esB : Array DictEntry} {nB : Nat} {slB : Array (Option Value)} (lB : K.lookup cStatics = some ⟨ocB, odB, .dict esB nB, slB⟩) (sB : skB esB = true) (fB : (nsFind esB sharingNotToldKey).isNone = true)
    {C fI KE : Addr} {nm q : Str} {N : Addr} {bs : List Value} {sn : List Str} {sub : List Value} {ab : Bool} {col : Option Bool} {dd : Option Addr} {m0 m1 m2 m3 m5 : Option Value}
    (xa : PySem.W.nsIn K mainGlobals "BadLine" = some (some (.ref C))) (xL : K.lookup C = some (excClassObj nm q C N bs [.ref KE, .type "ValueError", .type "Exception", .type "BaseException", .type "object"] true sn sub ab col dd m0 m1 m2 m3 m5 "ValueError.__new__"))
    (xsa : PySem.W.findIn K (.ref C) "__setattr__" = some (some (.builtin "object.__setattr__"))) (xga : PySem.W.findIn K (.ref C) "__getattribute__" = some (some (.builtin "BaseException.__getattribute__"))) (xgg : PySem.W.findIn K (.ref C) "__getattr__" = some none) (xhd : PySem.W.hasDictIn K C = true)
    (xn1 : PySem.W.findIn K (.ref C) "line" = some none) (xn2 : PySem.W.findIn K (.ref C) "word" = some none) (xi : PySem.W.findIn K (.ref C) "__init__" = some (some (.ref fI))) (xt : PySem.W.typeIn K (.ref fI) = some (.type "function")) (xk : PySem.W.keepIn K (.ref C) = true)
    (xe : PySem.W.subIn K (.ref C) (.type "BaseException") = some true) (xv : PySem.W.subIn K (.ref C) (.type "ValueError") = some true) (xy : PySem.W.typeIn K (.ref C) = some (.type "type")) (xs : PySem.W.ks_superIn K C C "__init__" = some (some (.builtin "ValueError.__init__")))
    (x3 : PySem.W.nsIn K PySem.cStatics "thirdparty.any" = some none) (xS : PySem.W.nsIn K mainGlobals "super" = some none) (xf : PySem.W.subIn K (.ref C) (.ref C) = some true)
    {oci : Value} {odi : Option Addr} {doci pmi : Value} {ani : Option Addr} {cti : Value} {osli : Array (Option Value)} {cci cdai : Addr} {ps1 ps2 ps3 qs1 qs2 qs3 qs4 qs5 qs6 qs7 as1 as2 as3 as4 bs1 bs2 bs3 bs4 : Pos} {e1x e2x : Value} {dd1 dd2 : Option Addr} {sl1x sl2x : Array (Option Value)} {fsx : Array Value} {filex : Str} {tfx : Tok}
    (xl : K.lookup fI = some ⟨oci, odi, .func (PySem.W.ksFn "__init__" "BadLine.__init__" (ZX.xArgs ps1 ps2 ps3) (ZX.xBody qs1 qs2 qs3 qs4 qs5 qs6 qs7 as1 as2 as3 as4 bs1 bs2 bs3 bs4) ZX.xScope .none .none doci pmi ani (.ref cdai) cti cci), osli⟩) (xcd : PySem.W.codeIn K (.ref cdai) "BadLine.__init__" = true)
    (xco : K.lookup cdai = some ⟨e1x, dd1, .fields fsx, sl1x⟩) (xfs : fsx[2]? = some (.str filex tfx)) (xfi : ((l.prog.main.file : Str) == filex) = true) (xcc : K.lookup cci = some ⟨e2x, dd2, .cell (some (.ref C)), sl2x⟩) (xln : (qs3.endLine == qs6.line) = true) (xtop : (l.prog.main.scope.names.lookup ("super" : Str)).isSome = false)
    (xKE : PySem.W.nsIn K mainGlobals "KeepError" = some (some (.ref KE))) (xcA : PySem.W.findIn K (.ref C) "__class__" = some (some (.builtin "object.__class__"))) (xgt : PySem.W.specialIn K (.builtin "object.__class__") "__get__" = some (some (.builtin "getset_descriptor.__get__"))) (xtk : PySem.W.takesIn K (.builtin "object.__class__") = some true) (xob : PySem.W.mroIn K C (.type "object") = some true) (xKd : PySem.W.hasDictIn K KE = true) (xKt : PySem.W.typeIn K (.ref KE) = some (.type "type")) (xKs : PySem.W.subIn K (.ref C) (.ref KE) = some true)
    (z0 : PySem.W.nsIn K mainGlobals "len" = some none)
    (z1 : PySem.W.nsIn K mainGlobals "abs" = some none)
    (z2 : PySem.W.nsIn K mainGlobals "sum" = some none)
    (z3 : PySem.W.nsIn K mainGlobals "isinstance" = some none)
    (z4 : PySem.W.nsIn K mainGlobals "sorted" = some none)
    (z5 : PySem.W.nsIn K mainGlobals "str" = some none)
    (z6 : PySem.W.nsIn K mainGlobals "int" = some none)
    (z7 : PySem.W.nsIn K mainGlobals "tuple" = some none)
    (z8 : PySem.W.nsIn K mainGlobals "list" = some none)
    (z9 : PySem.W.nsIn K mainGlobals "dict" = some none)
    (z10 : PySem.W.nsIn K mainGlobals "range" = some none)
    (z11 : PySem.W.nsIn K mainGlobals "zip" = some none)
    (z12 : PySem.W.nsIn K mainGlobals "enumerate" = some none)
    (z13 : PySem.W.nsIn K mainGlobals "bool" = some none)
    (z14 : PySem.W.nsIn K mainGlobals "max" = some none)
    (z15 : PySem.W.nsIn K mainGlobals "min" = some none)
    : ∃ fd : FuncData, (∀ (s : Shared) (v : Value), BindsTo s fd ⟨[v], []⟩ [("script", v)]) ∧ ∀ base : Heap, K.In base → base.Ns mainGlobals mg → FnOk l.prog w K mg base CX0 6 fa fd ["script"] (spOf K 1 none ct_law) := by
  have e := hfa.symm.trans (PySem.W.mg_of X G a19)
  cases e
  have bl : ∀ x ∈ BL, mg x = none := fun x hx => by
    simp only [BL, List.mem_cons, List.not_mem_nil, or_false] at hx
    rcases hx with rfl | rfl | rfl | rfl | rfl | rfl | rfl | rfl | rfl | rfl | rfl | rfl | rfl | rfl | rfl | rfl
    · exact PySem.W.mg_none_of X G z0
    · exact PySem.W.mg_none_of X G z1
    · exact PySem.W.mg_none_of X G z2
    · exact PySem.W.mg_none_of X G z3
    · exact PySem.W.mg_none_of X G z4
    · exact PySem.W.mg_none_of X G z5
    · exact PySem.W.mg_none_of X G z6
    · exact PySem.W.mg_none_of X G z7
    · exact PySem.W.mg_none_of X G z8
    · exact PySem.W.mg_none_of X G z9
    · exact PySem.W.mg_none_of X G z10
    · exact PySem.W.mg_none_of X G z11
    · exact PySem.W.mg_none_of X G z12
    · exact PySem.W.mg_none_of X G z13
    · exact PySem.W.mg_none_of X G z14
    · exact PySem.W.mg_none_of X G z15
  have F0 := fun_mk (st := stold_lines) l0 c0 k0
  have F1 := fund_of (st := sneed_short) (dvs := [.int 400]) (its := [.int 400 tT1]) (by simp) l1 c1 k1 lT1 (.cons ⟨_, rfl⟩ .nil)
  have F2 := fun_mk (st := swritten_integer) l2 c2 k2
  have F3 := fun_mk (st := sscript_text) l3 c3 k3
  have F6 := fun_mk (st := s_law_tape) l6 c6 k6
  have F7 := fun_mk (st := s_law_pick) l7 c7 k7
  have F8 := fun_mk (st := s_law_same) l8 c8 k8
  have F10 := fun_mk (st := s_law_lines) l10 c10 k10
  have F11 := fun_mk (st := s_law_integer) l11 c11 k11
  have F4 := fun_mk (st := sread_step) l4 c4 k4
  have F12 := fun_mk (st := s_law_read) l12 c12 k12
  have F14 := fun_mk (st := s_law_number) l14 c14 k14
  have F16 := fun_mk (st := s_law_loose) l16 c16 k16
  have F17 := fun_mk (st := s_law_spoilt) l17 c17 k17
  have F5 := fun_mk (st := sread_script) l5 c5 k5
  have F15 := fun_mk (st := s_law_drawn) l15 c15 k15
  have F13 := fun_mk (st := s_law_called) l13 c13 k13
  have F18 := fun_mk (st := s_law_asked) l18 c18 k18
  have F19 := fun_mk (st := slaw) l19 c19 k19
  refine ⟨PySem.W.fnOf "law" "law" (defArgs slaw) (defBody slaw) (defScope slaw) .none kV19 dc19 pm19 an19 cd19 ct19, fun s v => .of_eq rfl, fun base hb1 hb2 => ?_⟩
  have TX : ZX.XTxt l.prog K mg C fI := { gC := PySem.W.mg_of X G xa, cls := ⟨nm, q, N, bs, _, sn, sub, ab, col, dd, m0, m1, m2, m3, m5, xL, show HandSPX.refsVE [.type "ValueError", .type "Exception", .type "BaseException", .type "object"] = true by decide +kernel⟩, sa := xsa, ga := xga, gg := xgg, hdC := xhd, n1 := xn1, n2 := xn2, iC := xi, tC := xt, kC := xk, exC := xe, veC := xv, tyC := xy, sup := xs, third := x3, noS := PySem.W.mg_none_of X G xS, slf := xf, fn := ⟨_, _, _, _, _, _, _, _, _, _, _, _, _, _, _, _, _, _, _, _, _, _, _, _, _, _, _, _, _, _, _, _, _, _, _, _, xl, xcd, xco, xfs, xfi, xcc, xln⟩, top := xtop }
  have IX : IsX K C KE := isx_of (cls_dict xhd) xcA xgt xtk xob xKd xKt xKs
  have TNB : NBk K := nbk_of lB sB fB
  have M0 : ModF l.prog w K mg base 1 ⟨"told_lines", 1, none, []⟩ ct_tl := ⟨fun ds r o h => (l_tl (Γ := Gam) ds r o h).1, f0, _, ["text"], ok_told_lines (P := l.prog) (w := w) (mg := mg) (base := base) F0 bl , PySem.W.mg_of X G a0, k0, (F0.binds (ps := ["text"]) (fun _ _ _ _ _ _ us hl => match us, hl with | [_], _ => rfl)), fun kp hkp => nomatch hkp⟩
  have G1 := ok_need_short (P := l.prog) (w := w) (base := base) (k := 0) TX F1 bl (PySem.W.mg_of X G aLINE_MOST) ⟨_, rfl⟩
  have M2 : ModF l.prog w K mg base 1 ⟨"written_integer", 1, none, []⟩ ct_wi := ⟨fun ds r o h => (l_wi (Γ := Gam) ds r o h).1, f2, _, ["word"], ok_written_integer (P := l.prog) (w := w) (mg := mg) (base := base) F2 bl (PySem.W.mg_of X G aWRITTEN_MOST) ⟨_, rfl⟩ (PySem.W.mg_of X G aFIGURES) ⟨_, rfl⟩ , PySem.W.mg_of X G a2, k2, (F2.binds (ps := ["word"]) (fun _ _ _ _ _ _ us hl => match us, hl with | [_], _ => rfl)), fun kp hkp => nomatch hkp⟩
  have M3 : ModF l.prog w K mg base 1 ⟨"script_text", 1, none, [(["script"], [0])]⟩ ct_st := ⟨fun ds r o h => (l_st (Γ := Gam) ds r o h).1, f3, _, ["script"], ok_script_text (P := l.prog) (w := w) (mg := mg) (base := base) F3 bl , PySem.W.mg_of X G a3, k3, (F3.binds (ps := ["script"]) (fun _ _ _ _ _ _ us hl => match us, hl with | [_], _ => rfl)), fun kp hkp => by
        simp only [List.mem_cons, List.not_mem_nil, or_false] at hkp
        rcases hkp with rfl
        · exact kwOk (by decide) (by decide) rfl (fun ws hl => match ws, hl with | [_], _ => rfl)⟩
  have M6 : ModF l.prog w K mg base 1 ⟨"_law_tape", 1, none, []⟩ ct_tape := ⟨fun ds r o h => (l_tape ds r o h).1, f6, _, ["script"], ok__law_tape (P := l.prog) (w := w) (mg := mg) (base := base) F6 bl , PySem.W.mg_of X G a6, k6, (F6.binds (ps := ["script"]) (fun _ _ _ _ _ _ us hl => match us, hl with | [_], _ => rfl)), fun kp hkp => nomatch hkp⟩
  have M7 : ModF l.prog w K mg base 1 ⟨"_law_pick", 2, some 0, []⟩ ct_pick := ⟨fun ds r o h => (l_pick (Γ := Gam) ds r o h).1, f7, _, ["tape", "many"], ok__law_pick (P := l.prog) (w := w) (mg := mg) (base := base) F7 bl , PySem.W.mg_of X G a7, k7, (F7.binds (ps := ["tape", "many"]) (fun _ _ _ _ _ _ us hl => match us, hl with | [_, _], _ => rfl)), fun kp hkp => nomatch hkp⟩
  have M8 : ModF l.prog w K mg base 1 ⟨"_law_same", 2, none, []⟩ ct_same := ⟨fun ds r o h => (l_same (Γ := Gam) ds r o h).1, f8, _, ["told", "due"], ok__law_same (P := l.prog) (w := w) (mg := mg) (base := base) F8 bl , PySem.W.mg_of X G a8, k8, (F8.binds (ps := ["told", "due"]) (fun _ _ _ _ _ _ us hl => match us, hl with | [_, _], _ => rfl)), fun kp hkp => nomatch hkp⟩
  have M10 : ModF l.prog w K mg base 1 ⟨"_law_lines", 1, none, []⟩ ct_ll := ⟨fun ds r o h => (l_ll (Γ := Gam) ds r o h).1, f10, _, ["steps"], ok__law_lines (P := l.prog) (w := w) (mg := mg) (base := base) F10 bl , PySem.W.mg_of X G a10, k10, (F10.binds (ps := ["steps"]) (fun _ _ _ _ _ _ us hl => match us, hl with | [_], _ => rfl)), fun kp hkp => nomatch hkp⟩
  have M11 : ModF l.prog w K mg base 1 ⟨"_law_integer", 1, none, []⟩ ct_li := ⟨fun ds r o h => (l_li (Γ := Gam) ds r o h).1, f11, _, ["word"], ok__law_integer (P := l.prog) (w := w) (mg := mg) (base := base) F11 bl , PySem.W.mg_of X G a11, k11, (F11.binds (ps := ["word"]) (fun _ _ _ _ _ _ us hl => match us, hl with | [_], _ => rfl)), fun kp hkp => nomatch hkp⟩
  have G4 := ok_read_step (P := l.prog) (w := w) (base := base) (k := 1) TX F4 bl M2 (by decide)
  have M12 : ModF l.prog w K mg base 2 ⟨"_law_read", 1, none, []⟩ ct_lr := ⟨fun ds r o h => (l_lr (Γ := Gam) rfl ds r o h).1, f12, _, ["text"], ok__law_read (P := l.prog) (w := w) (mg := mg) (base := base) F12 bl M11, PySem.W.mg_of X G a12, k12, (F12.binds (ps := ["text"]) (fun _ _ _ _ _ _ us hl => match us, hl with | [_], _ => rfl)), fun kp hkp => nomatch hkp⟩
  have M14 : ModF l.prog w K mg base 2 ⟨"_law_number", 1, some 0, []⟩ ct_num := ⟨fun ds r o h => (l_num ds r o h).1, f14, _, ["tape"], ok__law_number (P := l.prog) (w := w) (mg := mg) (base := base) F14 bl M7, PySem.W.mg_of X G a14, k14, (F14.binds (ps := ["tape"]) (fun _ _ _ _ _ _ us hl => match us, hl with | [_], _ => rfl)), fun kp hkp => nomatch hkp⟩
  have M16 : ModF l.prog w K mg base 2 ⟨"_law_loose", 2, some 0, []⟩ ct_loose := ⟨fun ds r o h => (l_loose ds r o h).1, f16, _, ["tape", "lines"], ok__law_loose (P := l.prog) (w := w) (mg := mg) (base := base) F16 bl TNB M7, PySem.W.mg_of X G a16, k16, (F16.binds (ps := ["tape", "lines"]) (fun _ _ _ _ _ _ us hl => match us, hl with | [_, _], _ => rfl)), fun kp hkp => nomatch hkp⟩
  have M17 : ModF l.prog w K mg base 2 ⟨"_law_spoilt", 2, some 0, []⟩ ct_spoilt := ⟨fun ds r o h => (l_spoilt ds r o h).1, f17, _, ["tape", "lines"], ok__law_spoilt (P := l.prog) (w := w) (mg := mg) (base := base) F17 bl M7, PySem.W.mg_of X G a17, k17, (F17.binds (ps := ["tape", "lines"]) (fun _ _ _ _ _ _ us hl => match us, hl with | [_, _], _ => rfl)), fun kp hkp => nomatch hkp⟩
  have G5 := ok_read_script (P := l.prog) (w := w) (base := base) (k := 2) F5 bl M0 (by decide) F1 G1 (PySem.W.mg_of X G a1) k1 (by decide) G4 (PySem.W.mg_of X G a4) k4 (F4.binds (ps := ["number", "words"]) (fun _ _ _ _ _ _ us hl => match us, hl with | [_, _], _ => rfl)) (by decide)
  have M15 : ModF l.prog w K mg base 3 ⟨"_law_drawn", 1, some 0, []⟩ ct_drawn := ⟨fun ds r o h => (l_drawn ds r o h).1, f15, _, ["tape"], ok__law_drawn (P := l.prog) (w := w) (mg := mg) (base := base) F15 bl M7 M14, PySem.W.mg_of X G a15, k15, (F15.binds (ps := ["tape"]) (fun _ _ _ _ _ _ us hl => match us, hl with | [_], _ => rfl)), fun kp hkp => nomatch hkp⟩
  have M13 : ModF l.prog w K mg base 4 ⟨"_law_called", 1, none, []⟩ ct_called := ⟨fun ds r o h => len_called ds r o h, f13, _, ["text"], ok_law_called (P := l.prog) (w := w) (mg := mg) (base := base) (k := 3) TX IX (PySem.W.mg_of X G xKE) bl F13 G5 (by decide) (PySem.W.mg_of X G a5) k5 (F5.binds (ps := ["text"]) (fun _ _ _ _ _ _ us hl => match us, hl with | [_], _ => rfl)), PySem.W.mg_of X G a13, k13, (F13.binds (ps := ["text"]) (fun _ _ _ _ _ _ us hl => match us, hl with | [_], _ => rfl)), fun kp hkp => nomatch hkp⟩
  have M18 : ModF l.prog w K mg base 5 ⟨"_law_asked", 1, some 0, []⟩ ct_asked := ⟨fun ds r o h => (l_asked ds r o h).1, f18, _, ["tape"], ok__law_asked (P := l.prog) (w := w) (mg := mg) (base := base) F18 bl M3 M8 M10 M12 M13 M15 M16 M17, PySem.W.mg_of X G a18, k18, (F18.binds (ps := ["tape"]) (fun _ _ _ _ _ _ us hl => match us, hl with | [_], _ => rfl)), fun kp hkp => nomatch hkp⟩
  exact ok_law (P := l.prog) (w := w) (mg := mg) (base := base) F19 bl M3 M6 M7 M8 M13 M18
end
end K07
open PySem PySem.W PyProof.Rows
set_option maxHeartbeats 0 in
theorem PySem.Challenge.cw_keptlazily_k07_script_texts_holds : PySem.Challenge.rw_keptlazily_k07_script_texts.Holds := by
  w_on; o_law; k_head; (case hw => w_witness2)
  k_fill
  refine L2.walk_of (l := PySem.Challenge.rw_keptlazily_k07_script_texts) (n := 63) (k := 6) (x := "script") (CX := fun _ => L2.CX0) (sp := fun w => Z.spOf _ 1 none K07.ct_law) rfl (by decide) rfl ⟨rfl, by decide, by decide⟩ (fun w h Y => PySem.W.kIn_of Y) ?F (fun _ _ a ns hl _ hS => Z.sp_script hS ⟨ns, rfl, hl, rfl, rfl⟩) (fun _ _ _ _ _ h => h)
  case F =>
    intro w mg fa h KX G hmg
    refine' K07.all_mk KX G hmg ?a0 ?l0 ?c0 ?k0 ?a1 ?l1 ?c1 ?k1 ?lT1 ?a2 ?l2 ?c2 ?k2 ?a3 ?l3 ?c3 ?k3 ?a6 ?l6 ?c6 ?k6 ?a7 ?l7 ?c7 ?k7 ?a8 ?l8 ?c8 ?k8 ?a10 ?l10 ?c10 ?k10 ?a11 ?l11 ?c11 ?k11 ?a4 ?l4 ?c4 ?k4 ?a12 ?l12 ?c12 ?k12 ?a14 ?l14 ?c14 ?k14 ?a16 ?l16 ?c16 ?k16 ?a17 ?l17 ?c17 ?k17 ?a5 ?l5 ?c5 ?k5 ?a15 ?l15 ?c15 ?k15 ?a13 ?l13 ?c13 ?k13 ?a18 ?l18 ?c18 ?k18 ?a19 ?l19 ?c19 ?k19 ?aLINE_MOST ?aWRITTEN_MOST ?aFIGURES ?lB ?sB ?fB ?xa ?xL ?xsa ?xga ?xgg ?xhd ?xn1 ?xn2 ?xi ?xt ?xk ?xe ?xv ?xy ?xs ?x3 ?xS ?xf ?xl ?xcd ?xco ?xfs ?xfi ?xcc ?xln ?xtop ?xKE ?xcA ?xgt ?xtk ?xob ?xKd ?xKt ?xKs ?z0 ?z1 ?z2 ?z3 ?z4 ?z5 ?z6 ?z7 ?z8 ?z9 ?z10 ?z11 ?z12 ?z13 ?z14 ?z15
    (case a0 => k_is)
    (case l0 => k_is)
    (case c0 => k_is)
    (case k0 => k_is)
    (case a1 => k_is)
    (case l1 => k_is)
    (case c1 => k_is)
    (case k1 => k_is)
    (case lT1 => k_is)
    (case a2 => k_is)
    (case l2 => k_is)
    (case c2 => k_is)
    (case k2 => k_is)
    (case a3 => k_is)
    (case l3 => k_is)
    (case c3 => k_is)
    (case k3 => k_is)
    (case a6 => k_is)
    (case l6 => k_is)
    (case c6 => k_is)
    (case k6 => k_is)
    (case a7 => k_is)
    (case l7 => k_is)
    (case c7 => k_is)
    (case k7 => k_is)
    (case a8 => k_is)
    (case l8 => k_is)
    (case c8 => k_is)
    (case k8 => k_is)
    (case a10 => k_is)
    (case l10 => k_is)
    (case c10 => k_is)
    (case k10 => k_is)
    (case a11 => k_is)
    (case l11 => k_is)
    (case c11 => k_is)
    (case k11 => k_is)
    (case a4 => k_is)
    (case l4 => k_is)
    (case c4 => k_is)
    (case k4 => k_is)
    (case a12 => k_is)
    (case l12 => k_is)
    (case c12 => k_is)
    (case k12 => k_is)
    (case a14 => k_is)
    (case l14 => k_is)
    (case c14 => k_is)
    (case k14 => k_is)
    (case a16 => k_is)
    (case l16 => k_is)
    (case c16 => k_is)
    (case k16 => k_is)
    (case a17 => k_is)
    (case l17 => k_is)
    (case c17 => k_is)
    (case k17 => k_is)
    (case a5 => k_is)
    (case l5 => k_is)
    (case c5 => k_is)
    (case k5 => k_is)
    (case a15 => k_is)
    (case l15 => k_is)
    (case c15 => k_is)
    (case k15 => k_is)
    (case a13 => k_is)
    (case l13 => k_is)
    (case c13 => k_is)
    (case k13 => k_is)
    (case a18 => k_is)
    (case l18 => k_is)
    (case c18 => k_is)
    (case k18 => k_is)
    (case a19 => k_is)
    (case l19 => k_is)
    (case c19 => k_is)
    (case k19 => k_is)
    (case aLINE_MOST => k_is)
    (case aWRITTEN_MOST => k_is)
    (case aFIGURES => k_is)
    (case lB => k_is)
    (case sB => first | rfl | decide +kernel)
    (case fB => first | rfl | decide +kernel)
    (case xa => k_is)
    (case xL => k_is)
    (case xsa => k_is)
    (case xga => k_is)
    (case xgg => k_is)
    (case xhd => k_is)
    (case xn1 => k_is)
    (case xn2 => k_is)
    (case xi => k_is)
    (case xt => k_is)
    (case xk => k_is)
    (case xe => k_is)
    (case xv => k_is)
    (case xy => k_is)
    (case xs => ks_is)
    (case x3 => k_is)
    (case xS => k_is)
    (case xf => first | rfl | k_is)
    (case xl => k_is)
    (case xcd => k_is)
    (case xco => k_is)
    (case xfs => exact rfl)
    (case xfi => exact rfl)
    (case xcc => k_is)
    (case xln => exact rfl)
    (case xtop => exact rfl)
    (case xKE => k_is)
    (case xcA => k_is)
    (case xgt => k_is)
    (case xtk => k_is)
    (case xob => k_is)
    (case xKd => k_is)
    (case xKt => k_is)
    (case xKs => k_is)
    (case z0 => k_is)
    (case z1 => k_is)
    (case z2 => k_is)
    (case z3 => k_is)
    (case z4 => k_is)
    (case z5 => k_is)
    (case z6 => k_is)
    (case z7 => k_is)
    (case z8 => k_is)
    (case z9 => k_is)
    (case z10 => k_is)
    (case z11 => k_is)
    (case z12 => k_is)
    (case z13 => k_is)
    (case z14 => k_is)
    (case z15 => k_is)
