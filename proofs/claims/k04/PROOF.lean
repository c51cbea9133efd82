import PyProof.Rows.All
import Wide.All
import OpenK.AllK
import Wide.FinOn
import HandS.ForMost
import HandS.ForExc
import HandS.Wide
import HandS.CallSlots
import HandS.WideBits
import HandS.TupAny
import HandS.ExcOwn
import HandS.Deep
import HandS.Dict
import HandS.Text
import HandS.Zip
import HandS.TupMul
import HandS.IsInst
import HandS.Conv
import HandS.Iter
import HandS.Walk
import HandS.Comp
import KE.GoesNew
import HandS.More
import HandS.RaiseMore
import HandS.Strs
import PyProof.StrLawsFirst
import PyProof.StrLawsIn
import PySem.Challenge.RW_keeproom_k04_texts_that_are_no_question
set_option Elab.async false
set_option linter.all false
set_option maxRecDepth 100000
set_option maxHeartbeats 2000000
/-! Data as trees, and how they lie in the heap. -/
namespace KR
open PySem L2

/-- data by value -/
inductive D where
  | non
  | bl (b : Bool)
  | int (i : Int)
  | str (x : Str)
  | tup (xs : List D)
  | lst (xs : List D)
  /-- a list that is read alone: the script -/
  | lsr (xs : List D)
  | dct (ks vs : List D)
  | ins (c : Nat) (ns : List Str) (fs : List D)

/-- what a name holds: data, or an object of its own that may still change -/
inductive RV where
  | val (d : D)
  | olst (xs : List D)
  | odct (ks vs : List D)
  | oins (c : Nat) (ns : List Str) (fs : List RV)
  /-- a tuple of which it is known that it has no dict: it has methods -/
  | otup (xs : List D)

mutual
def RV.fr : RV → D
  | .val d => d
  | .olst xs => .lst xs
  | .odct ks vs => .dct ks vs
  | .oins c ns fs => .ins c ns (RV.frs fs)
  | .otup xs => .tup xs
def RV.frs : List RV → List D
  | [] => []
  | r :: rs => RV.fr r :: RV.frs rs
end

/-- keys of plain dicts -/
def keyD : Key → D
  | .inl i => .int i
  | .inr x => .str x

/-- what may be read, and stays: a frozen address, or an object of the written part -/
def FT (K : PySem.W.Frag) (F : Addr → Prop) (H : Hp) (a : Addr) (vs : List V) : Prop :=
  (F a ∧ Rd H a (.tup vs)) ∨ ∃ (o : Obj) (its : Array Value) (n : Nat), K.lookup a = some o ∧ o.cls = .type "tuple" ∧ o.data = .seq its n ∧ its.size ≤ sizeLine ∧ Vals vs its.toList
def FL (K : PySem.W.Frag) (F : Addr → Prop) (H : Hp) (a : Addr) (vs : List V) : Prop :=
  (F a ∧ Rd H a (.lst vs)) ∨ ∃ (o : Obj) (its : Array Value) (n : Nat), K.lookup a = some o ∧ o.cls = .type "list" ∧ o.dict = none ∧ o.data = .seq its n ∧ its.size ≤ sizeLine ∧ Vals vs its.toList

section
variable (K : PySem.W.Frag) (cl : Nat → Addr) (F : Addr → Prop) (H : Hp)
mutual
/-- d lies at v, and stays -/
def R : D → V → Prop
  | .non, v => v = .non
  | .bl b, v => v = .bl b
  | .int i, v => v = .int i
  | .str x, v => v = .str x
  | .tup ds, v => ∃ a vs, v = .ref a ∧ FT K F H a vs ∧ RL ds vs
  | .lst ds, v => ∃ a vs, v = .ref a ∧ F a ∧ H a = some (.lst vs) ∧ RL ds vs
  | .lsr ds, v => ∃ a vs, v = .ref a ∧ FL K F H a vs ∧ RL ds vs
  | .dct ks ds, v => ∃ (a : Addr) (kvs : List (Key × V)), v = .ref a ∧ F a ∧ H a = some (.dK kvs) ∧ ks = kvs.map (fun p => keyD p.1) ∧ RL ds (kvs.map (·.2))
  | .ins c ns ds, v => ∃ (a dx : Addr) (vs : List V), v = .ref a ∧ F a ∧ H a = some (.ins (cl c) dx (ns.zip vs)) ∧ ns.length = vs.length ∧ RL ds vs
def RL : List D → List V → Prop
  | [], vs => vs = []
  | d :: ds, vs => ∃ v us, vs = v :: us ∧ R d v ∧ RL ds us
end

/-- where a stands alone -/
def one (a : Addr) : Addr → Nat := fun b => if b = a then 1 else 0

mutual
/-- r lies at v; n: the addresses that are r's own -/
def RO : RV → V → (Addr → Nat) → Prop
  | .val d, v, n => R K cl F H d v ∧ ∀ a, n a = 0
  | .olst ds, v, n => ∃ a vs, v = .ref a ∧ H a = some (.lst vs) ∧ RL K cl F H ds vs ∧ ∀ b, n b = one a b
  | .odct ks ds, v, n => ∃ (a : Addr) (kvs : List (Key × V)), v = .ref a ∧ H a = some (.dK kvs) ∧ ks = kvs.map (fun p => keyD p.1) ∧ RL K cl F H ds (kvs.map (·.2)) ∧ ∀ b, n b = one a b
  | .oins c ns rs, v, n => ∃ (a dx : Addr) (vs : List V) (m : Addr → Nat), v = .ref a ∧ H a = some (.ins (cl c) dx (ns.zip vs)) ∧ ns.length = vs.length ∧ ROL rs vs m ∧ ∀ b, n b = one a b + m b
  | .otup ds, v, n => (∃ (a : Addr) (vs : List V) (o : Obj), v = .ref a ∧ F a ∧ o.dict = none ∧ H a = some (.frz o (.tup vs)) ∧ RL K cl F H ds vs) ∧ ∀ a, n a = 0
def ROL : List RV → List V → (Addr → Nat) → Prop
  | [], vs, n => vs = [] ∧ ∀ a, n a = 0
  | r :: rs, vs, n => ∃ v us n1 n2, vs = v :: us ∧ RO r v n1 ∧ ROL rs us n2 ∧ ∀ a, n a = n1 a + n2 a
end

/-- one name -/
def SLOT : Option RV → Option V → (Addr → Nat) → Prop
  | none, _, n => ∀ a, n a = 0
  | some rv, s, n => ∃ v, s = some v ∧ RO K cl F H rv v n
/-- the names -/
def SL : List (Option RV) → List (Option V) → (Addr → Nat) → Prop
  | [], ss, n => ss = [] ∧ ∀ a, n a = 0
  | r :: rs, ss, n => ∃ s us n1 n2, ss = s :: us ∧ SLOT K cl F H r s n1 ∧ SL rs us n2 ∧ ∀ a, n a = n1 a + n2 a

/-- what is owned is owned once, and isn't frozen; all of it is there -/
structure WF (n : Addr → Nat) : Prop where
  le : ∀ a, n a ≤ 1
  nf : ∀ a, n a ≠ 0 → ¬ F a
  ho : ∀ a, n a ≠ 0 → H a ≠ none
  hf : ∀ a, F a → H a ≠ none
end

/-- how one comes from (F, H) owning n to (F', H') owning n' -/
structure Ext (F : Addr → Prop) (H : Hp) (n : Addr → Nat) (F' : Addr → Prop) (H' : Hp) (n' : Addr → Nat) : Prop where
  frame : ∀ a o, H a = some o → n a = 0 → H' a = some o
  dom : ∀ a, H a ≠ none → H' a ≠ none
  fz : ∀ a, F a → F' a
  own : ∀ a, n' a ≠ 0 → n a ≠ 0 ∨ H a = none
  fzn : ∀ a, F' a → F a ∨ n a ≠ 0 ∨ H a = none

section
variable {K : PySem.W.Frag} {cl : Nat → Addr} {F F' F2 : Addr → Prop} {H H' H2 : Hp} {n n' n2 m : Addr → Nat}
theorem Ext.refl : Ext F H n F H n := ⟨fun _ _ h _ => h, fun _ h => h, fun _ h => h, fun _ h => .inl h, fun _ h => .inl h⟩
theorem Ext.trans (w : WF F H n) (x : Ext F H n F' H' n') (y : Ext F' H' n' F2 H2 n2) : Ext F H n F2 H2 n2 where
  frame := fun a o h hn => by
    have h1 := x.frame a o h hn
    by_cases q : n' a = 0
    · exact y.frame a o h1 q
    · rcases x.own a q with z | z
      · exact absurd hn z
      · rw [h] at z; cases z
  dom := fun a h => y.dom a (x.dom a h)
  fz := fun a h => y.fz a (x.fz a h)
  own := fun a h => by
    rcases y.own a h with z | z
    · exact x.own a z
    · right
      by_cases q : H a = none
      · exact q
      · exact absurd z (x.dom a q)
  fzn := fun a h => by
    rcases y.fzn a h with z | z | z
    · exact x.fzn a z
    · exact (x.own a z).elim (fun z => .inr (.inl z)) fun z => .inr (.inr z)
    · right; right
      by_cases q : H a = none
      · exact q
      · exact absurd z (x.dom a q)
/-- with more around -/
theorem WF.more (w : WF F H (fun a => n a + m a)) (x : Ext F H n F' H' n') (w' : WF F' H' n') : WF F' H' (fun a => n' a + m a) where
  le := fun a => by
    have h1 := w.le a
    have h2 := w'.le a
    by_cases q : m a = 0
    · omega
    · by_cases q' : n' a = 0
      · omega
      · rcases x.own a q' with z | z
        · omega
        · exact absurd z (w.ho a (by show n a + m a ≠ 0; omega))
  nf := fun a h hf => by
    by_cases q : n' a = 0
    · have hm : m a ≠ 0 := by have h' : n' a + m a ≠ 0 := h; omega
      have h1 := w.le a
      rcases x.fzn a hf with z | z | z
      · exact w.nf a (by show n a + m a ≠ 0; omega) z
      · omega
      · exact w.ho a (by show n a + m a ≠ 0; omega) z
    · exact w'.nf a q hf
  ho := fun a h => by
    by_cases q : n' a = 0
    · exact x.dom a (w.ho a (by have h' : n' a + m a ≠ 0 := h; show n a + m a ≠ 0; omega))
    · exact w'.ho a q
  hf := w'.hf
theorem Ext.more (w : WF F H (fun a => n a + m a)) (x : Ext F H n F' H' n') : Ext F H (fun a => n a + m a) F' H' (fun a => n' a + m a) where
  frame := fun a o h hn => x.frame a o h (by have h' : n a + m a = 0 := hn; omega)
  dom := x.dom
  fz := x.fz
  own := fun a h => by
    by_cases q : n' a = 0
    · exact .inl (by have h' : n' a + m a ≠ 0 := h; show n a + m a ≠ 0; omega)
    · rcases x.own a q with z | z
      · exact .inl (by show n a + m a ≠ 0; omega)
      · exact .inr z
  fzn := fun a h => by
    rcases x.fzn a h with z | z | z
    · exact .inl z
    · exact .inr (.inl (by show n a + m a ≠ 0; omega))
    · exact .inr (.inr z)
theorem WF.sub (w : WF F H n) (h : ∀ a, m a ≤ n a) : WF F H m :=
  ⟨fun a => Nat.le_trans (h a) (w.le a), fun a q => w.nf a (by have := h a; omega), fun a q => w.ho a (by have := h a; omega), w.hf⟩
theorem WF.congr (w : WF F H n) (h : ∀ a, m a = n a) : WF F H m := w.sub fun a => Nat.le_of_eq (h a)
theorem Ext.sub (x : Ext F H n F' H' n') (h : ∀ a, m a ≤ n' a) : Ext F H n F' H' m :=
  ⟨x.frame, x.dom, x.fz, fun a q => x.own a (by have := h a; omega), x.fzn⟩
theorem Ext.congr (x : Ext F H n F' H' n') (h : ∀ a, m a = n a) (h' : ∀ a, n2 a = n' a) : Ext F H m F' H' n2 :=
  ⟨fun a o e q => x.frame a o e (by rw [← h a]; exact q), x.dom, x.fz, fun a q => (x.own a (by rw [← h' a]; exact q)).imp (fun z => by rw [h a]; exact z) id,
    fun a q => (x.fzn a q).imp id (fun z => z.imp (fun z => by rw [h a]; exact z) id)⟩

theorem FT.mono {a : Addr} {vs : List V} (h : FT K F H a vs) (hf : ∀ a, F a → F' a) (hh : ∀ a, F a → H' a = H a) : FT K F' H' a vs := by
  rcases h with ⟨h1, h2⟩ | h
  · refine .inl ⟨hf a h1, ?_⟩
    unfold Rd at h2 ⊢
    rw [hh a h1]
    exact h2
  · exact .inr h
theorem FL.mono {a : Addr} {vs : List V} (h : FL K F H a vs) (hf : ∀ a, F a → F' a) (hh : ∀ a, F a → H' a = H a) : FL K F' H' a vs := by
  rcases h with ⟨h1, h2⟩ | h
  · refine .inl ⟨hf a h1, ?_⟩
    unfold Rd at h2 ⊢
    rw [hh a h1]
    exact h2
  · exact .inr h
theorem FT.seq {a : Addr} {vs : List V} (h : FT K F H a vs) : SqT K H a vs := h.imp (·.2) id
theorem FL.seq {a : Addr} {vs : List V} (h : FL K F H a vs) : SqL K H a vs := h.imp (·.2) id
mutual
theorem R.mono (hf : ∀ a, F a → F' a) (hh : ∀ a, F a → H' a = H a) : ∀ (d : D) {v : V}, R K cl F H d v → R K cl F' H' d v
  | .non, _, h => h
  | .bl _, _, h => h
  | .int _, _, h => h
  | .str _, _, h => h
  | .tup ds, _, ⟨a, vs, e, h, r⟩ => ⟨a, vs, e, h.mono hf hh, RL.mono hf hh ds r⟩
  | .lst ds, _, ⟨a, vs, e, h, h2, r⟩ => ⟨a, vs, e, hf a h, by rw [hh a h]; exact h2, RL.mono hf hh ds r⟩
  | .lsr ds, _, ⟨a, vs, e, h, r⟩ => ⟨a, vs, e, h.mono hf hh, RL.mono hf hh ds r⟩
  | .dct ks ds, _, ⟨a, kvs, e, h1, h2, h3, r⟩ => ⟨a, kvs, e, hf a h1, by rw [hh a h1]; exact h2, h3, RL.mono hf hh ds r⟩
  | .ins c ns ds, _, ⟨a, dx, vs, e, h1, h2, h3, r⟩ => ⟨a, dx, vs, e, hf a h1, by rw [hh a h1]; exact h2, h3, RL.mono hf hh ds r⟩
theorem RL.mono (hf : ∀ a, F a → F' a) (hh : ∀ a, F a → H' a = H a) : ∀ (ds : List D) {vs : List V}, RL K cl F H ds vs → RL K cl F' H' ds vs
  | [], _, h => h
  | d :: ds, _, ⟨v, us, e, r, rs⟩ => ⟨v, us, e, R.mono hf hh d r, RL.mono hf hh ds rs⟩
end
mutual
theorem RO.mono (hf : ∀ a, F a → F' a) (hh : ∀ a, F a → H' a = H a) : ∀ (r : RV) {v : V} {n : Addr → Nat}, (∀ a, n a ≠ 0 → H' a = H a) → RO K cl F H r v n → RO K cl F' H' r v n
  | .val d, _, _, _, ⟨h, z⟩ => ⟨R.mono hf hh d h, z⟩
  | .olst ds, _, _, k, ⟨a, vs, e, h, r, z⟩ => ⟨a, vs, e, by rw [k a (by rw [z a]; simp [one])]; exact h, RL.mono hf hh ds r, z⟩
  | .odct ks ds, _, _, k, ⟨a, kvs, e, h, h3, r, z⟩ => ⟨a, kvs, e, by rw [k a (by rw [z a]; simp [one])]; exact h, h3, RL.mono hf hh ds r, z⟩
  | .oins c ns rs, _, _, k, ⟨a, dx, vs, m, e, h, h3, r, z⟩ => ⟨a, dx, vs, m, e, by rw [k a (by rw [z a]; simp [one])]; exact h, h3, ROL.mono hf hh rs (fun b hb => k b (by rw [z b]; omega)) r, z⟩
  | .otup ds, _, _, k, ⟨⟨a, vs, o, e, h, ho, h2, r⟩, z⟩ => ⟨⟨a, vs, o, e, hf a h, ho, by rw [hh a h]; exact h2, RL.mono hf hh ds r⟩, z⟩
theorem ROL.mono (hf : ∀ a, F a → F' a) (hh : ∀ a, F a → H' a = H a) : ∀ (rs : List RV) {vs : List V} {n : Addr → Nat}, (∀ a, n a ≠ 0 → H' a = H a) → ROL K cl F H rs vs n → ROL K cl F' H' rs vs n
  | [], _, _, _, h => h
  | r :: rs, _, _, k, ⟨v, us, n1, n2, e, q, qs, z⟩ => ⟨v, us, n1, n2, e, RO.mono hf hh r (fun b hb => k b (by rw [z b]; omega)) q, ROL.mono hf hh rs (fun b hb => k b (by rw [z b]; omega)) qs, z⟩
end
theorem SL.mono (hf : ∀ a, F a → F' a) (hh : ∀ a, F a → H' a = H a) : ∀ {rs : List (Option RV)} {ss : List (Option V)} {n : Addr → Nat}, (∀ a, n a ≠ 0 → H' a = H a) → SL K cl F H rs ss n → SL K cl F' H' rs ss n
  | [], _, _, _, h => h
  | none :: rs, _, _, k, ⟨s, us, n1, n2, e, q, qs, z⟩ => ⟨s, us, n1, n2, e, q, SL.mono hf hh (fun b hb => k b (by rw [z b]; omega)) qs, z⟩
  | some r :: rs, _, _, k, ⟨s, us, n1, n2, e, ⟨v, e2, q⟩, qs, z⟩ => ⟨s, us, n1, n2, e, ⟨v, e2, RO.mono hf hh r (fun b hb => k b (by rw [z b]; omega)) q⟩, SL.mono hf hh (fun b hb => k b (by rw [z b]; omega)) qs, z⟩
/-- frozen: what was owned, too -/
def Fp (F : Addr → Prop) (n : Addr → Nat) : Addr → Prop := fun a => F a ∨ n a ≠ 0
mutual
theorem RO.frz : ∀ (r : RV) {v : V} {n : Addr → Nat}, RO K cl F H r v n → R K cl (Fp F n) H r.fr v
  | .val d, _, _, ⟨h, z⟩ => R.mono (fun _ q => .inl q) (fun _ _ => rfl) d h
  | .olst ds, _, n, ⟨a, vs, e, h, r, z⟩ => by
    unfold RV.fr
    exact ⟨a, vs, e, .inr (by rw [z a]; simp [one]), h, RL.mono (fun _ q => .inl q) (fun _ _ => rfl) ds r⟩
  | .odct ks ds, _, n, ⟨a, kvs, e, h, h3, r, z⟩ => by
    unfold RV.fr
    exact ⟨a, kvs, e, .inr (by rw [z a]; simp [one]), h, h3, RL.mono (fun _ q => .inl q) (fun _ _ => rfl) ds r⟩
  | .oins c ns rs, _, n, ⟨a, dx, vs, m, e, h, h3, r, z⟩ => by
    unfold RV.fr
    refine ⟨a, dx, vs, e, .inr (by rw [z a]; simp [one]), h, h3, ?_⟩
    exact RL.mono (fun b q => q.imp id fun q => by rw [z b]; omega) (fun _ _ => rfl) _ (ROL.frz rs r)
  | .otup ds, _, n, ⟨⟨a, vs, o, e, h, ho, h2, r⟩, z⟩ => by
    unfold RV.fr
    exact ⟨a, vs, e, .inl ⟨.inl h, .inr ⟨o, h2⟩⟩, RL.mono (fun _ q => .inl q) (fun _ _ => rfl) ds r⟩
theorem ROL.frz : ∀ (rs : List RV) {vs : List V} {n : Addr → Nat}, ROL K cl F H rs vs n → RL K cl (Fp F n) H (RV.frs rs) vs
  | [], _, _, ⟨h, _⟩ => by unfold RV.frs; exact h
  | r :: rs, _, n, ⟨v, us, n1, n2, e, q, qs, z⟩ => by
    unfold RV.frs
    exact ⟨v, us, e, R.mono (fun b q => q.imp id fun q => by rw [z b]; omega) (fun _ _ => rfl) _ (RO.frz r q), RL.mono (fun b q => q.imp id fun q => by rw [z b]; omega) (fun _ _ => rfl) _ (ROL.frz rs qs)⟩
end
/-- freezing a part -/
theorem WF.frz (w : WF F H (fun a => n a + m a)) : WF (Fp F n) H m where
  le := fun a => by have := w.le a; omega
  nf := fun a h hf => by
    rcases hf with z | z
    · exact w.nf a (by show n a + m a ≠ 0; omega) z
    · have := w.le a; omega
  ho := fun a h => w.ho a (by show n a + m a ≠ 0; omega)
  hf := fun a h => by
    rcases h with z | z
    · exact w.hf a z
    · exact w.ho a (by show n a + m a ≠ 0; omega)
theorem Ext.frz : Ext F H (fun a => n a + m a) (Fp F n) H m where
  frame := fun _ _ h _ => h
  dom := fun _ h => h
  fz := fun _ h => .inl h
  own := fun a h => .inl (by show n a + m a ≠ 0; omega)
  fzn := fun a h => h.imp id fun z => .inl (by show n a + m a ≠ 0; omega)

/-- the name at i -/
theorem SL.get : ∀ {rs : List (Option RV)} {ss : List (Option V)} {n : Addr → Nat} {i : Nat} {r : RV}, SL K cl F H rs ss n → rs[i]? = some (some r) →
    ∃ (v : V) (n1 n2 : Addr → Nat), ss[i]? = some (some v) ∧ RO K cl F H r v n1 ∧ (∀ a, n a = n1 a + n2 a) ∧
      (∀ {F' : Addr → Prop} {H' : Hp} {r' : Option RV} {s' : Option V} {m : Addr → Nat}, (∀ a, F a → F' a) → (∀ a, F a → H' a = H a) → (∀ a, n2 a ≠ 0 → H' a = H a) →
        SLOT K cl F' H' r' s' m → SL K cl F' H' (rs.set i r') (ss.set i s') (fun a => m a + n2 a))
  | [], _, _, _, _, _, e => by simp at e
  | r0 :: rs, _, n, 0, r, ⟨s, us, n1, n2, e1, q, qs, z⟩, e => by
    simp at e
    subst e
    obtain ⟨v, e2, q⟩ := q
    refine ⟨v, n1, n2, by rw [e1, e2]; rfl, q, z, fun {F' H' r' s' m} hf hh k hm => ?_⟩
    rw [e1]
    exact ⟨s', us, m, n2, rfl, hm, SL.mono hf hh k qs, fun _ => rfl⟩
  | r0 :: rs, _, n, i + 1, r, ⟨s, us, n1, n2, e1, q, qs, z⟩, e => by
    obtain ⟨v, m1, m2, e2, q2, z2, k⟩ := SL.get (i := i) qs (by simpa using e)
    refine ⟨v, m1, fun a => n1 a + m2 a, by rw [e1]; simpa using e2, q2, fun a => by have h1 := z a; have h2 := z2 a; show n a = m1 a + (n1 a + m2 a); omega, fun {F' H' r' s' m} hf hh kk hm => ?_⟩
    rw [e1]
    refine ⟨s, us.set i s', n1, fun a => m a + m2 a, rfl, ?_, k hf hh (fun a ha => kk a (by show n1 a + m2 a ≠ 0; omega)) hm, fun a => by show m a + (n1 a + m2 a) = n1 a + (m a + m2 a); omega⟩
    cases r0 with
    | none => exact q
    | some r0 =>
      obtain ⟨v0, e0, q0⟩ := q
      exact ⟨v0, e0, RO.mono hf hh r0 (fun a ha => kk a (by show n1 a + m2 a ≠ 0; omega)) q0⟩
/-- a name is stored -/
theorem SL.put : ∀ {rs : List (Option RV)} {ss : List (Option V)} {n : Addr → Nat} {i : Nat}, SL K cl F H rs ss n → i < rs.length →
    ∃ n2 : Addr → Nat, (∀ a, n2 a ≤ n a) ∧ ∀ {r' : Option RV} {s' : Option V} {m : Addr → Nat}, SLOT K cl F H r' s' m → SL K cl F H (rs.set i r') (ss.set i s') (fun a => m a + n2 a)
  | [], _, _, _, _, e => by simp at e
  | r0 :: rs, _, n, 0, ⟨s, us, n1, n2, e1, q, qs, z⟩, e => by
    refine ⟨n2, fun a => by rw [z a]; omega, fun {r' s' m} hm => ?_⟩
    rw [e1]
    exact ⟨s', us, m, n2, rfl, hm, qs, fun _ => rfl⟩
  | r0 :: rs, _, n, i + 1, ⟨s, us, n1, n2, e1, q, qs, z⟩, e => by
    obtain ⟨m2, z2, k⟩ := SL.put (i := i) qs (by simpa using e)
    refine ⟨fun a => n1 a + m2 a, fun a => by have h1 := z a; have h2 := z2 a; show n1 a + m2 a ≤ n a; omega, fun {r' s' m} hm => ?_⟩
    rw [e1]
    exact ⟨s, us.set i s', n1, fun a => m a + m2 a, rfl, q, k hm, fun a => by show m a + (n1 a + m2 a) = n1 a + (m a + m2 a); omega⟩
theorem SL.length : ∀ {rs : List (Option RV)} {ss : List (Option V)} {n : Addr → Nat}, SL K cl F H rs ss n → ss.length = rs.length
  | [], _, _, ⟨e, _⟩ => by rw [e]; rfl
  | _ :: rs, _, _, ⟨_, us, _, _, e, _, q, _⟩ => by rw [e, List.length_cons, List.length_cons, SL.length q]
theorem RL.length : ∀ {ds : List D} {vs : List V}, RL K cl F H ds vs → vs.length = ds.length
  | [], _, e => by rw [show _ = [] from e]; rfl
  | _ :: ds, _, ⟨_, us, e, _, q⟩ => by rw [e, List.length_cons, List.length_cons, RL.length q]
theorem RL.get : ∀ {ds : List D} {vs : List V} {i : Nat} {d : D}, RL K cl F H ds vs → ds[i]? = some d → ∃ v, vs[i]? = some v ∧ R K cl F H d v
  | [], _, _, _, _, e => by simp at e
  | d0 :: ds, _, 0, d, ⟨v, us, e1, q, _⟩, e => by
    simp at e
    subst e
    exact ⟨v, by rw [e1]; rfl, q⟩
  | d0 :: ds, _, i + 1, d, ⟨v, us, e1, _, qs⟩, e => by
    obtain ⟨u, e2, q⟩ := RL.get (i := i) qs (by simpa using e)
    exact ⟨u, by rw [e1]; simpa using e2, q⟩
theorem RL.append : ∀ {ds es : List D} {vs us : List V}, RL K cl F H ds vs → RL K cl F H es us → RL K cl F H (ds ++ es) (vs ++ us)
  | [], _, _, _, e, q => by rw [show _ = [] from e]; exact q
  | d :: ds, _, _, _, ⟨v, ws, e, r, rs⟩, q => by
    rw [e]
    exact ⟨v, ws ++ _, rfl, r, RL.append rs q⟩
theorem RL.take : ∀ {ds : List D} {vs : List V} (i : Nat), RL K cl F H ds vs → RL K cl F H (ds.take i) (vs.take i)
  | _, _, 0, _ => by simp [RL]
  | [], _, i + 1, e => by rw [show _ = [] from e]; simp [RL]
  | d :: ds, _, i + 1, ⟨v, ws, e, r, rs⟩ => by
    rw [e]
    exact ⟨v, ws.take i, rfl, r, RL.take i rs⟩
theorem RL.drop : ∀ {ds : List D} {vs : List V} (i : Nat), RL K cl F H ds vs → RL K cl F H (ds.drop i) (vs.drop i)
  | _, _, 0, h => h
  | [], _, i + 1, e => by rw [show _ = [] from e]; simp [RL]
  | d :: ds, _, i + 1, ⟨v, ws, e, r, rs⟩ => by
    rw [e]
    exact RL.drop i rs
theorem RL.set : ∀ {ds : List D} {vs : List V} (i : Nat) {d : D} {v : V}, RL K cl F H ds vs → R K cl F H d v → RL K cl F H (ds.set i d) (vs.set i v)
  | [], _, _, _, _, e, _ => by rw [show _ = [] from e]; simp [RL]
  | d0 :: ds, _, 0, _, _, ⟨v, ws, e, r, rs⟩, q => by
    rw [e]
    exact ⟨_, ws, rfl, q, rs⟩
  | d0 :: ds, _, i + 1, _, _, ⟨v, ws, e, r, rs⟩, q => by
    rw [e]
    exact ⟨v, _, rfl, r, RL.set i rs q⟩
end
end KR

set_option Elab.async false
set_option linter.all false
set_option maxRecDepth 100000
set_option maxHeartbeats 2000000
/-! Denotations, and what it says that an expression denotes. -/
namespace KR
open PySem L2 PyProof.Rows

/-- an exception of the program's own: its class, its fields -/
structure XV where
  c : Nat
  ns : List Str
  fs : List D
abbrev Env := List (Option RV)
abbrev M (α : Type) := Env → Option (Except XV α × Env)
/-- how a statement ends -/
inductive Fl where
  | nx | bk | ct
  | ret (r : RV)
abbrev S := List Nat → M Fl

def ret {α : Type} (a : α) : M α := fun ρ => some (.ok a, ρ)
def stuck {α : Type} : M α := fun _ => none
def bnd {α β : Type} (x : M α) (f : α → M β) : M β := fun ρ =>
  match x ρ with
  | none => none
  | some (.error e, ρ') => some (.error e, ρ')
  | some (.ok a, ρ') => f a ρ'
def lift {α : Type} (o : Option α) : M α := fun ρ =>
  match o with
  | none => none
  | some a => some (.ok a, ρ)

/-- how an exception lies -/
def RX (K : PySem.W.Frag) (cl : Nat → Addr) (F : Addr → Prop) (H : Hp) (x : XV) (c : Value) (dx : Option Addr) : Prop :=
  c = .ref (cl x.c) ∧ ((x.ns = [] ∧ dx = none) ∨ ∃ (d : Addr) (vs : List V), dx = some d ∧ F d ∧ H d = some (.xd (x.ns.zip vs)) ∧ x.ns.length = vs.length ∧ RL K cl F H x.fs vs)

section
variable (K : PySem.W.Frag) (cl : Nat → Addr) (W : WX)
/-- what an exception must meet -/
def tX (F : Addr → Prop) (H : Hp) (n : Addr → Nat) (σ : L2.St) (x : XV) (ρ' : Env) : Prop :=
  ∀ (c : Value) (dx : Option Addr) (F' : Addr → Prop) (H' : Hp) (n' : Addr → Nat), RX K cl F' H' x c dx → SL K cl F' H' ρ' σ n' → WF F' H' n' → Ext F H n F' H' n' → W c dx σ H'
/-- an outcome: what is wanted where it is no exception -/
def Mt {α : Type} (F : Addr → Prop) (H : Hp) (n : Addr → Nat) (σ : L2.St) (o : Option (Except XV α × Env)) (P : α → Env → Prop) : Prop :=
  match o with
  | none => False
  | some (.ok x, ρ') => P x ρ'
  | some (.error x, ρ') => tX K cl W F H n σ x ρ'
def pD (F : Addr → Prop) (H : Hp) (n : Addr → Nat) (σ : L2.St) (Q : VK) : D → Env → Prop := fun x ρ' =>
  ∀ (v : V) (F' : Addr → Prop) (H' : Hp) (n' : Addr → Nat), R K cl F' H' x v → SL K cl F' H' ρ' σ n' → WF F' H' n' → Ext F H n F' H' n' → Q v H'
def pO (F : Addr → Prop) (H : Hp) (n : Addr → Nat) (σ : L2.St) (Q : VK) : RV → Env → Prop := fun x ρ' =>
  ∀ (v : V) (F' : Addr → Prop) (H' : Hp) (m n' : Addr → Nat), RO K cl F' H' x v m → SL K cl F' H' ρ' σ n' → WF F' H' (fun a => m a + n' a) → Ext F H n F' H' (fun a => m a + n' a) → Q v H'
def pA (F : Addr → Prop) (H : Hp) (n : Addr → Nat) (σ : L2.St) (Q : List V → Hp → Prop) : List D → Env → Prop := fun xs ρ' =>
  ∀ (vs : List V) (F' : Addr → Prop) (H' : Hp) (n' : Addr → Nat), RL K cl F' H' xs vs → SL K cl F' H' ρ' σ n' → WF F' H' n' → Ext F H n F' H' n' → Q vs H'
def pT (F : Addr → Prop) (H : Hp) (n : Addr → Nat) (σ : L2.St) (Q : Bool → Hp → Prop) : Bool → Env → Prop := fun b ρ' =>
  ∀ (F' : Addr → Prop) (H' : Hp) (n' : Addr → Nat), SL K cl F' H' ρ' σ n' → WF F' H' n' → Ext F H n F' H' n' → Q b H'
/-- data, frozen -/
def tE (d : M D) : TE := fun σ H Q => ∃ (F : Addr → Prop) (ρ : Env) (n : Addr → Nat), SL K cl F H ρ σ n ∧ WF F H n ∧ Mt K cl W F H n σ (d ρ) (pD K cl F H n σ Q)
/-- what may be owned -/
def tO (d : M RV) : TE := fun σ H Q => ∃ (F : Addr → Prop) (ρ : Env) (n : Addr → Nat), SL K cl F H ρ σ n ∧ WF F H n ∧ Mt K cl W F H n σ (d ρ) (pO K cl F H n σ Q)
/-- a list of data -/
def tA (d : M (List D)) : TA := fun σ H Q => ∃ (F : Addr → Prop) (ρ : Env) (n : Addr → Nat), SL K cl F H ρ σ n ∧ WF F H n ∧ Mt K cl W F H n σ (d ρ) (pA K cl F H n σ Q)
/-- a test -/
def tT (d : M Bool) : TT := fun σ H Q => ∃ (F : Addr → Prop) (ρ : Env) (n : Addr → Nat), SL K cl F H ρ σ n ∧ WF F H n ∧ Mt K cl W F H n σ (d ρ) (pT K cl F H n σ Q)
/-- the locked places are as they were -/
def Lk (lk : List Nat) (σ σ' : L2.St) : Prop := ∀ i ∈ lk, σ'[i]? = σ[i]?
def pN (F : Addr → Prop) (H : Hp) (n : Addr → Nat) (lk : List Nat) (σ : L2.St) (Q : L2.St → Hp → Prop) (ρ' : Env) : Prop :=
  ∀ (σ' : L2.St) (F' : Addr → Prop) (H' : Hp) (n' : Addr → Nat), SL K cl F' H' ρ' σ' n' → WF F' H' n' → Ext F H n F' H' n' → Lk lk σ σ' → Q σ' H'
def pR (F : Addr → Prop) (H : Hp) (n : Addr → Nat) (lk : List Nat) (σ : L2.St) (Q : VK) (x : RV) (ρ' : Env) : Prop :=
  ∀ (v : V) (σ' : L2.St) (F' : Addr → Prop) (H' : Hp) (m n' : Addr → Nat), RO K cl F' H' x v m → SL K cl F' H' ρ' σ' n' → WF F' H' (fun a => m a + n' a) → Ext F H n F' H' (fun a => m a + n' a) → Lk lk σ σ' → Q v H'
def pX (F : Addr → Prop) (H : Hp) (n : Addr → Nat) (lk : List Nat) (σ : L2.St) (x : XV) (ρ' : Env) : Prop :=
  ∀ (c : Value) (dx : Option Addr) (σ' : L2.St) (F' : Addr → Prop) (H' : Hp) (n' : Addr → Nat), RX K cl F' H' x c dx → SL K cl F' H' ρ' σ' n' → WF F' H' n' → Ext F H n F' H' n' → Lk lk σ σ' → W c dx σ' H'
/-- how a statement's end must meet what is wanted -/
def Ms (F : Addr → Prop) (H : Hp) (n : Addr → Nat) (lk : List Nat) (σ : L2.St) (D : Ends) (o : Option (Except XV Fl × Env)) : Prop :=
  match o with
  | none => False
  | some (.ok .nx, ρ') => pN K cl F H n lk σ D.nx ρ'
  | some (.ok .bk, ρ') => pN K cl F H n lk σ D.bk ρ'
  | some (.ok .ct, ρ') => pN K cl F H n lk σ D.ct ρ'
  | some (.ok (.ret x), ρ') => pR K cl F H n lk σ D.rt x ρ'
  | some (.error x, ρ') => pX K cl W F H n lk σ x ρ'
/-- a statement; lk: the places that may not be stored -/
def tS (lk : List Nat) (d : S) : TS := fun D σ H => ∃ (F : Addr → Prop) (ρ : Env) (n : Addr → Nat), SL K cl F H ρ σ n ∧ WF F H n ∧ Ms K cl W F H n lk σ D (d lk ρ)
end

/-- what is fixed within a body: the classes' places, what is wanted of exceptions -/
structure Cf where
  X : Cx
  cl : Nat → Addr
  W : WX
  k : Nat
  CX : CXT
  room : Room k X.A
  calm : X.calm = true
  nd : X.N.Nodup
  pass : ∀ σ, PassesAt CX X σ (fun c d H => W c d σ H)
  cxF : ∀ outer H s e s', ¬ CX outer H s (fun _ _ _ => False) e s'
  own : PassesOwn (model X.prog X.w) X.A X.env X.xe

def DE (C : Cf) (e : Expr) (d : M D) : Prop := PE C.X e (tE C.X.K C.cl C.W d)
def DO (C : Cf) (e : Expr) (d : M RV) : Prop := PE C.X e (tO C.X.K C.cl C.W d)
def DA (C : Cf) (es : List Expr) (d : M (List D)) : Prop := PA C.X es (tA C.X.K C.cl C.W d)
def DT (C : Cf) (e : Expr) (d : M Bool) : Prop := PT C.X e (tT C.X.K C.cl C.W d)
def DS (C : Cf) (lk : List Nat) (st : Stmt) (d : S) : Prop := PS C.X st (tS C.X.K C.cl C.W lk d)
def DB (C : Cf) (lk : List Nat) (sts : List Stmt) (d : S) : Prop := PSs C.X sts (tS C.X.K C.cl C.W lk d)

theorem PE.imp {X : Cx} {e : Expr} {t t' : TE} (h : PE X e t) (i : ∀ σ H Q, t' σ H Q → t σ H Q) : PE X e t' := ⟨fun pins s σ H Q I q => h.run pins s σ H Q I (i σ H Q q)⟩
theorem PA.imp {X : Cx} {es : List Expr} {t t' : TA} (h : PA X es t) (i : ∀ σ H Q, t' σ H Q → t σ H Q) : PA X es t' := ⟨fun pos pins s σ H Q I q => h.run pos pins s σ H Q I (i σ H Q q)⟩
theorem PT.imp {X : Cx} {e : Expr} {t t' : TT} (h : PT X e t) (i : ∀ σ H Q, t' σ H Q → t σ H Q) : PT X e t' := ⟨fun pins s σ H Q I q => h.run pins s σ H Q I (i σ H Q q)⟩
theorem PS.imp {X : Cx} {st : Stmt} {t t' : TS} (h : PS X st t) (i : ∀ D σ H, t' D σ H → t D σ H) : PS X st t' := ⟨fun pins s σ H D I q => h.run pins s σ H D I (i D σ H q)⟩
theorem PSs.imp {X : Cx} {st : List Stmt} {t t' : TS} (h : PSs X st t) (i : ∀ D σ H, t' D σ H → t D σ H) : PSs X st t' := ⟨fun pins s σ H D I q => h.run pins s σ H D I (i D σ H q)⟩

section
variable {K : PySem.W.Frag} {cl : Nat → Addr} {W : WX} {F F' : Addr → Prop} {H H' : Hp} {n n' m : Addr → Nat} {σ : L2.St} {Q : VK}
/-- behind a first part: exceptions go on -/
theorem tX.trans {x : XV} {ρ' : Env} (w : WF F H n) (e : Ext F H n F' H' n') (h : tX K cl W F H n σ x ρ') : tX K cl W F' H' n' σ x ρ' :=
  fun c dx F2 H2 n2 rx sl wf ex => h c dx F2 H2 n2 rx sl wf (e.trans w ex)
theorem Mt.step {α : Type} {o : Option (Except XV α × Env)} {P P' : α → Env → Prop} (w : WF F H n) (e : Ext F H n F' H' n') (h : Mt K cl W F H n σ o P) (hp : ∀ a ρ', P a ρ' → P' a ρ') : Mt K cl W F' H' n' σ o P' := by
  unfold Mt at h ⊢
  split at h
  · exact h
  · exact hp _ _ h
  · exact tX.trans w e h
theorem Mt.imp {α : Type} {o : Option (Except XV α × Env)} {P P' : α → Env → Prop} (h : Mt K cl W F H n σ o P) (hp : ∀ a ρ', P a ρ' → P' a ρ') : Mt K cl W F H n σ o P' := by
  unfold Mt at h ⊢
  split at h
  · exact h
  · exact hp _ _ h
  · exact h
theorem Mt.bnd {α β : Type} {d : M α} {f : α → M β} {ρ : Env} {P : β → Env → Prop} (h : Mt K cl W F H n σ (bnd d f ρ) P) : Mt K cl W F H n σ (d ρ) fun a ρ' => Mt K cl W F H n σ (f a ρ') P := by
  unfold KR.bnd at h
  cases e : d ρ with
  | none => rw [e] at h; exact h
  | some p =>
    obtain ⟨r, ρ'⟩ := p
    rw [e] at h
    cases r with
    | error x => exact h
    | ok a => exact h
theorem pD.step {x : D} {ρ' : Env} (w : WF F H n) (e : Ext F H n F' H' n') (h : pD K cl F H n σ Q x ρ') : pD K cl F' H' n' σ Q x ρ' := fun v F2 H2 n2 r s wf ex => h v F2 H2 n2 r s wf (e.trans w ex)
theorem pO.step {x : RV} {ρ' : Env} (w : WF F H n) (e : Ext F H n F' H' n') (h : pO K cl F H n σ Q x ρ') : pO K cl F' H' n' σ Q x ρ' := fun v F2 H2 m n2 r s wf ex => h v F2 H2 m n2 r s wf (e.trans w ex)
theorem pA.step {x : List D} {ρ' : Env} {Q : List V → Hp → Prop} (w : WF F H n) (e : Ext F H n F' H' n') (h : pA K cl F H n σ Q x ρ') : pA K cl F' H' n' σ Q x ρ' := fun v F2 H2 n2 r s wf ex => h v F2 H2 n2 r s wf (e.trans w ex)
theorem pT.step {x : Bool} {ρ' : Env} {Q : Bool → Hp → Prop} (w : WF F H n) (e : Ext F H n F' H' n') (h : pT K cl F H n σ Q x ρ') : pT K cl F' H' n' σ Q x ρ' := fun F2 H2 n2 s wf ex => h F2 H2 n2 s wf (e.trans w ex)
theorem frame_eq (w : WF F H n) (e : Ext F H n F' H' n') : ∀ a, F a → H' a = H a := fun a h => by
  cases q : H a with
  | none => exact absurd q (w.hf a h)
  | some o =>
    have hn : n a = 0 := Decidable.byContradiction fun z => w.nf a z h
    exact e.frame a o q hn
theorem R.ext {d : D} {v : V} (r : R K cl F H d v) (w : WF F H n) (e : Ext F H n F' H' n') : R K cl F' H' d v := r.mono e.fz (frame_eq w e) d
theorem RL.ext {ds : List D} {vs : List V} (r : RL K cl F H ds vs) (w : WF F H n) (e : Ext F H n F' H' n') : RL K cl F' H' ds vs := RL.mono e.fz (frame_eq w e) ds r
/-- a new object, frozen -/
theorem new_frz {p : Addr} {o : HO} (w : WF F H n) (hp : H p = none) : WF (fun a => F a ∨ a = p) (upd H p o) n ∧ Ext F H n (fun a => F a ∨ a = p) (upd H p o) n := by
  have ne : ∀ a, H a ≠ none → a ≠ p := fun a h e => h (by rw [e]; exact hp)
  refine ⟨⟨w.le, fun a h q => ?_, fun a h => ?_, fun a h => ?_⟩, ⟨fun a o' h _ => ?_, fun a h => ?_, fun a h => .inl h, fun a h => .inl h, fun a h => ?_⟩⟩
  · rcases q with q | q
    · exact w.nf a h q
    · exact ne a (w.ho a h) q
  · rw [upd_ne (ne a (w.ho a h))]; exact w.ho a h
  · rcases h with h | h
    · rw [upd_ne (ne a (w.hf a h))]; exact w.hf a h
    · rw [h, upd_same]; simp
  · rw [upd_ne (ne a (by rw [h]; simp))]; exact h
  · rw [upd_ne (ne a h)]; exact h
  · rcases h with h | h
    · exact .inl h
    · exact .inr (.inr (by rw [h]; exact hp))
/-- a new object, owned -/
theorem new_own {p : Addr} {o : HO} (w : WF F H n) (hp : H p = none) : WF F (upd H p o) (fun a => one p a + n a) ∧ Ext F H n F (upd H p o) (fun a => one p a + n a) := by
  have ne : ∀ a, H a ≠ none → a ≠ p := fun a h e => h (by rw [e]; exact hp)
  have np : n p = 0 := Decidable.byContradiction fun z => w.ho p z hp
  have z : ∀ a, one p a + n a ≠ 0 → a = p ∨ n a ≠ 0 := fun a h => by
    by_cases q : a = p
    · exact .inl q
    · right; unfold one at h; rw [if_neg q] at h; omega
  refine ⟨⟨fun a => ?_, fun a h q => ?_, fun a h => ?_, fun a h => ?_⟩, ⟨fun a o' h _ => ?_, fun a h => ?_, fun a h => h, fun a h => ?_, fun a h => .inl h⟩⟩
  · have := w.le a
    unfold one
    by_cases q : a = p
    · subst q; rw [if_pos rfl]; omega
    · rw [if_neg q]; omega
  · rcases z a h with h | h
    · rw [h] at q; exact w.hf p q hp
    · exact w.nf a h q
  · rcases z a h with h | h
    · rw [h, upd_same]; simp
    · rw [upd_ne (ne a (w.ho a h))]; exact w.ho a h
  · rw [upd_ne (ne a (w.hf a h))]; exact w.hf a h
  · rw [upd_ne (ne a (by rw [h]; simp))]; exact h
  · rw [upd_ne (ne a h)]; exact h
  · rcases z a h with h | h
    · exact .inr (by rw [h]; exact hp)
    · exact .inl h
theorem SL.ext {ρ : Env} (s : SL K cl F H ρ σ n) (w : WF F H n) (hf : ∀ a, F a → F' a) (hh : ∀ a, H a ≠ none → H' a = H a) : SL K cl F' H' ρ σ n :=
  SL.mono hf (fun a h => hh a (w.hf a h)) (fun a h => hh a (w.ho a h)) s
end

section
variable {C : Cf} {a b c : Expr} {da db dc : M D} {pos : Pos}
/-- owned or not: frozen -/
def frz (d : M RV) : M D := bnd d fun r => ret r.fr
def val (d : M D) : M RV := bnd d fun r => ret (.val r)
theorem e_frz {d : M RV} (h : DO C a d) : DE C a (frz d) := by
  refine PE.imp h fun σ H Q ⟨F, ρ, n, sl, wf, q⟩ => ⟨F, ρ, n, sl, wf, q.bnd.imp fun r ρ' q => ?_⟩
  intro v F' H' m n' ro sl' wf' ex
  exact q v (Fp F' m) H' n' (RO.frz r ro) (SL.mono (fun _ z => .inl z) (fun _ _ => rfl) (fun _ _ => rfl) sl') wf'.frz (ex.trans wf Ext.frz)
theorem o_val (h : DE C a da) : DO C a (val da) := by
  refine PE.imp h fun σ H Q ⟨F, ρ, n, sl, wf, q⟩ => ⟨F, ρ, n, sl, wf, q.bnd.imp fun r ρ' q => ?_⟩
  intro v F' H' n' ro sl' wf' ex
  exact q v F' H' (fun _ => 0) n' ⟨ro, fun _ => rfl⟩ sl' (wf'.congr fun _ => by show 0 + _ = _; omega) (ex.congr (fun _ => rfl) fun _ => by show 0 + _ = _; omega)

/-- a value that leans on nothing -/
theorem e_const {x : D} {v : V} (h : PE C.X a (tC v)) (r : ∀ F H, R C.X.K C.cl F H x v) : DE C a (ret x) := by
  refine PE.imp h fun σ H Q ⟨F, ρ, n, sl, wf, q⟩ => ?_
  exact q v F H n (r F H) sl wf Ext.refl
theorem e_int {i j} : DE C (.Constant (.int i) j pos) (ret (.int i)) := e_const pe_int fun _ _ => rfl
theorem e_bl {i j} : DE C (.Constant (.bool i) j pos) (ret (.bl i)) := e_const pe_bl fun _ _ => rfl
theorem e_non {j} : DE C (.Constant .none j pos) (ret .non) := e_const pe_non fun _ _ => rfl
theorem e_str {x j} : DE C (.Constant (.str x) j pos) (ret (.str x)) := e_const pe_str fun _ _ => rfl
theorem e_glob {x : Str} {v : V} {u : Value} {d : D} (hg : Gl C.X x) (hm : C.X.mg x = some u) (r : RelV v u) (q : ∀ F H, R C.X.K C.cl F H d v) (hd : (x == ("__debug__" : Str)) = false := by decide) : DE C (.Name x pos) (ret d) :=
  e_const (pe_glob hg hm r hd) q

/-- the name at i: what it owns is frozen by this -/
def getv (i : Nat) : M D := fun ρ => match ρ[i]? with
  | some (some (.val d)) => some (.ok d, ρ)
  | some (some (.otup xs)) => some (.ok (.tup xs), ρ)
  | some (some r) => some (.ok r.fr, ρ.set i (some (.val r.fr)))
  | _ => none
theorem e_name {i : Nat} {x : Str} (h : PE C.X (.Name x pos) (tVar i)) : DE C (.Name x pos) (getv i) := by
  refine PE.imp h fun σ H Q ⟨F, ρ, n, sl, wf, q⟩ => ?_
  unfold getv at q
  cases e : ρ[i]? with
  | none => rw [e] at q; exact q.elim
  | some r0 =>
    cases r0 with
    | none => rw [e] at q; exact q.elim
    | some r =>
      rw [e] at q
      obtain ⟨v, n1, n2, ev, ro, hn, put⟩ := SL.get sl e
      refine ⟨v, ev, ?_⟩
      have w' : WF F H (fun a => n1 a + n2 a) := wf.congr fun a => (hn a).symm
      have hset : σ.set i (some v) = σ := by
        have hi := List.getElem?_eq_some_iff.mp ev
        obtain ⟨h1, h2⟩ := hi
        rw [← h2]; exact List.set_getElem_self h1
      have key : ∀ r : RV, RO C.X.K C.cl F H r v n1 → (∀ (v : V) (F' : Addr → Prop) (H' : Hp) (n' : Addr → Nat), R C.X.K C.cl F' H' r.fr v → SL C.X.K C.cl F' H' (ρ.set i (some (.val r.fr))) σ n' → WF F' H' n' → Ext F H n F' H' n' → Q v H') → Q v H := fun r ro q => by
        have s2 : SL C.X.K C.cl (Fp F n1) H (ρ.set i (some (.val r.fr))) (σ.set i (some v)) (fun a => (fun _ => 0) a + n2 a) :=
          put (F' := Fp F n1) (H' := H) (r' := some (.val r.fr)) (s' := some v) (m := fun _ => 0) (fun _ z => .inl z) (fun _ _ => rfl) (fun _ _ => rfl) ⟨v, rfl, RO.frz r ro, fun _ => rfl⟩
        rw [hset] at s2
        refine q v (Fp F n1) H _ (RO.frz r ro) s2 (w'.frz.congr fun a => by show 0 + n2 a = n2 a; omega) ?_
        exact (Ext.frz (F := F) (n := n1) (m := n2)).congr hn fun a => by show 0 + n2 a = n2 a; omega
      cases r with
      | val d => exact q v F H n ro.1 sl wf Ext.refl
      | olst xs => exact key _ ro q
      | odct ks vs => exact key _ ro q
      | oins c ns fs => exact key _ ro q
      | otup xs =>
        obtain ⟨⟨a, vs, o, ea, hF, _, h2, rl⟩, _⟩ := ro
        exact q v F H n ⟨a, vs, ea, .inl ⟨hF, .inr ⟨o, h2⟩⟩, rl⟩ sl wf Ext.refl

/-- two parts in a row -/
theorem two {r : R2} {g : D → D → M D} {σ : L2.St} {H : Hp} {Q : VK} (h : tE C.X.K C.cl C.W (bnd da fun x => bnd db fun y => g x y) σ H Q)
    (step : ∀ (F : Addr → Prop) (H : Hp) (n : Addr → Nat) (ρ : Env) (x y : D) (vx vy : V), R C.X.K C.cl F H x vx → R C.X.K C.cl F H y vy → SL C.X.K C.cl F H ρ σ n → WF F H n →
      Mt C.X.K C.cl C.W F H n σ (g x y ρ) (pD C.X.K C.cl F H n σ Q) → r vx vy H Q) :
    tOp r (tE C.X.K C.cl C.W da) (tE C.X.K C.cl C.W db) σ H Q := by
  obtain ⟨F, ρ, n, sl, wf, q⟩ := h
  refine ⟨F, ρ, n, sl, wf, q.bnd.imp fun x ρ1 q => ?_⟩
  intro vx F1 H1 n1 rx sl1 wf1 ex1
  refine ⟨F1, ρ1, n1, sl1, wf1, q.bnd.step wf ex1 fun y ρ2 q => ?_⟩
  intro vy F2 H2 n2 ry sl2 wf2 ex2
  have ex := ex1.trans wf ex2
  exact step F2 H2 n2 ρ2 x y vx vy (rx.ext wf1 ex2) ry sl2 wf2 (q.step wf ex fun z ρ3 q => q.step wf ex)
end
end KR

set_option Elab.async false
set_option linter.all false
set_option maxRecDepth 100000
set_option maxHeartbeats 2000000
/-! Rules: operators, comparisons, places, lengths. -/
namespace KR
open PySem L2 PyProof.Rows

section
variable {K : PySem.W.Frag} {cl : Nat → Addr} {W : WX} {F F' : Addr → Prop} {H H' : Hp} {n n' m : Addr → Nat} {σ : L2.St} {Q : VK} {ρ : Env}
/-- a value as it stands -/
theorem pD.here {x : D} {v : V} (q : pD K cl F H n σ Q x ρ) (r : R K cl F H x v) (sl : SL K cl F H ρ σ n) (wf : WF F H n) : Q v H := q v F H n r sl wf Ext.refl
/-- a new object, frozen -/
theorem pD.new {x : D} {p : Addr} {o : HO} (q : pD K cl F H n σ Q x ρ) (hp : H p = none) (sl : SL K cl F H ρ σ n) (wf : WF F H n)
    (r : R K cl (fun a => F a ∨ a = p) (upd H p o) x (.ref p)) : Q (.ref p) (upd H p o) := by
  obtain ⟨w2, e2⟩ := new_frz (o := o) wf hp
  refine q _ _ _ n r (sl.ext wf (fun a h => .inl h) fun a h => upd_ne fun e => h (by rw [e]; exact hp)) w2 e2
/-- data behind a new object -/
theorem RL.new {xs : List D} {vs : List V} {p : Addr} {o : HO} (r : RL K cl F H xs vs) (hp : H p = none) (wf : WF F H n) : RL K cl (fun a => F a ∨ a = p) (upd H p o) xs vs :=
  RL.mono (fun a h => .inl h) (fun a h => upd_ne fun e => wf.hf a h (by rw [e]; exact hp)) xs r
theorem R.new {x : D} {v : V} {p : Addr} {o : HO} (r : R K cl F H x v) (hp : H p = none) (wf : WF F H n) : R K cl (fun a => F a ∨ a = p) (upd H p o) x v :=
  R.mono (fun a h => .inl h) (fun a h => upd_ne fun e => wf.hf a h (by rw [e]; exact hp)) x r
theorem RO.new {x : RV} {v : V} {p : Addr} {o : HO} {k : Addr → Nat} (r : RO K cl F H x v k) (hp : H p = none) (wf : WF F H n) (hk : ∀ a, k a ≠ 0 → H a ≠ none) : RO K cl (fun a => F a ∨ a = p) (upd H p o) x v k :=
  RO.mono (fun a h => .inl h) (fun a h => upd_ne fun e => wf.hf a h (by rw [e]; exact hp)) x (fun a h => upd_ne fun e => hk a h (by rw [e]; exact hp)) r
/-- a new tuple, a new list -/
theorem pD.tup {xs : List D} {vs : List V} {p : Addr} (q : pD K cl F H n σ Q (.tup xs) ρ) (hp : H p = none) (sl : SL K cl F H ρ σ n) (wf : WF F H n) (r : RL K cl F H xs vs) : Q (.ref p) (upd H p (.tup vs)) :=
  q.new hp sl wf ⟨p, vs, rfl, .inl ⟨.inr rfl, .inl upd_same⟩, r.new hp wf⟩
theorem pD.lst {xs : List D} {vs : List V} {p : Addr} (q : pD K cl F H n σ Q (.lst xs) ρ) (hp : H p = none) (sl : SL K cl F H ρ σ n) (wf : WF F H n) (r : RL K cl F H xs vs) : Q (.ref p) (upd H p (.lst vs)) :=
  q.new hp sl wf ⟨p, vs, rfl, .inr rfl, upd_same, r.new hp wf⟩
end

/-- an operation by values, as a function over data -/
def opR (K : PySem.W.Frag) (cl : Nat → Addr) (g : D → D → Option D) : R2 := fun vx vy H Q => ∃ (F : Addr → Prop) (n : Addr → Nat) (σ : L2.St) (ρ : Env) (x y z : D),
  R K cl F H x vx ∧ R K cl F H y vy ∧ SL K cl F H ρ σ n ∧ WF F H n ∧ g x y = some z ∧ pD K cl F H n σ Q z ρ
def bin (g : D → D → Option D) (a b : M D) : M D := bnd a fun x => bnd b fun y => lift (g x y)
def opR1 (K : PySem.W.Frag) (cl : Nat → Addr) (g : D → Option D) : V → Hp → VK → Prop := fun vx H Q => ∃ (F : Addr → Prop) (n : Addr → Nat) (σ : L2.St) (ρ : Env) (x z : D),
  R K cl F H x vx ∧ SL K cl F H ρ σ n ∧ WF F H n ∧ g x = some z ∧ pD K cl F H n σ Q z ρ
def una (g : D → Option D) (a : M D) : M D := bnd a fun x => lift (g x)
/-- a built-in by values -/
def opRL (K : PySem.W.Frag) (cl : Nat → Addr) (g : List D → Option D) : List V → Hp → VK → Prop := fun vs H Q => ∃ (F : Addr → Prop) (n : Addr → Nat) (σ : L2.St) (ρ : Env) (xs : List D) (z : D),
  RL K cl F H xs vs ∧ SL K cl F H ρ σ n ∧ WF F H n ∧ g xs = some z ∧ pD K cl F H n σ Q z ρ
def cal (g : List D → Option D) (a : M (List D)) : M D := bnd a fun x => lift (g x)
theorem Mt_lift {α : Type} {K : PySem.W.Frag} {cl : Nat → Addr} {W : WX} {F : Addr → Prop} {H : Hp} {n : Addr → Nat} {σ : L2.St} {ρ : Env} {o : Option α} {P : α → Env → Prop} (h : Mt K cl W F H n σ (lift o ρ) P) : ∃ z, o = some z ∧ P z ρ := by
  unfold lift at h
  cases o with
  | none => exact h.elim
  | some z => exact ⟨z, rfl, h⟩

section
variable {C : Cf} {a b : Expr} {da db : M D} {pos : Pos}
theorem e_bin {op : Operator} {g : D → D → Option D} (ho : OpR C.X (binaryOp op) (opR C.X.K C.cl g)) (ha : DE C a da) (hb : DE C b db) : DE C (.BinOp a op b pos) (bin g da db) := by
  refine PE.imp (pe_op ho ha hb) fun σ H Q h => two h fun F H n ρ x y vx vy rx ry sl wf q => ?_
  obtain ⟨z, e, q⟩ := Mt_lift q
  exact ⟨F, n, σ, ρ, x, y, z, rx, ry, sl, wf, e, q⟩
theorem e_cmp {op : CmpOp} {g : D → D → Option D} (ho : OpR C.X (compareOp op) (opR C.X.K C.cl g)) (ha : DE C a da) (hb : DE C b db) (hm : behindInMarks op b = false) : DE C (.Compare a [op] [b] pos) (bin g da db) := by
  refine PE.imp (pe_cmpR ho ha hb hm) fun σ H Q h => two h fun F H n ρ x y vx vy rx ry sl wf q => ?_
  obtain ⟨z, e, q⟩ := Mt_lift q
  exact ⟨F, n, σ, ρ, x, y, z, rx, ry, sl, wf, e, q⟩
theorem e_un {op : UnaryOp} {g : D → Option D} (ho : UnR C.X (unaryOp op) (opR1 C.X.K C.cl g)) (ha : DE C a da) : DE C (.UnaryOp op a pos) (una g da) := by
  refine PE.imp (pe_un ho ha) fun σ H Q ⟨F, ρ, n, sl, wf, q⟩ => ⟨F, ρ, n, sl, wf, q.bnd.imp fun x ρ1 q => ?_⟩
  intro vx F1 H1 n1 rx sl1 wf1 ex1
  obtain ⟨z, e, q⟩ := Mt_lift q
  exact ⟨F1, n1, σ, ρ1, x, z, rx, sl1, wf1, e, q.step wf ex1⟩
/-- a comparison as a test -/
def binT (g : D → D → Option D) (a b : M D) : M Bool := bnd (bin g a b) fun z => lift (match z with | .bl k => some k | _ => none)
theorem R_bl {K : PySem.W.Frag} {cl : Nat → Addr} {F : Addr → Prop} {H : Hp} {k : Bool} {v : V} (h : R K cl F H (.bl k) v) : v = .bl k := h
def asB : D → Option Bool
  | .bl k => some k
  | _ => none
def tst (d : M D) : M Bool := bnd d fun z => lift (asB z)
theorem t_of {X : Cx} {K : PySem.W.Frag} {cl : Nat → Addr} {W : WX} {d : M D} {σ : L2.St} {H : Hp} {Q : Bool → Hp → Prop} (h : tT K cl W (tst d) σ H Q) : tE K cl W d σ H fun x H1 => ∃ k, x = .bl k ∧ Q k H1 := by
  obtain ⟨F, ρ, n, sl, wf, q⟩ := h
  refine ⟨F, ρ, n, sl, wf, q.bnd.imp fun x ρ1 q => ?_⟩
  obtain ⟨k, e, q⟩ := Mt_lift q
  intro v F1 H1 n1 rx sl1 wf1 ex1
  cases x with
  | bl b =>
    cases e
    exact ⟨_, rx, q F1 H1 n1 sl1 wf1 ex1⟩
  | _ => cases e
theorem t_cmp {op : CmpOp} {g : D → D → Option D} (ho : OpR C.X (compareOp op) (opR C.X.K C.cl g)) (ha : DE C a da) (hb : DE C b db) (hm : behindInMarks op b = false) : DT C (.Compare a [op] [b] pos) (tst (bin g da db)) := by
  refine PT.imp (pt_cmpR ho ha hb hm) fun σ H Q h => two (t_of (X := C.X) h) fun F H n ρ x y vx vy rx ry sl wf q => ?_
  obtain ⟨z, e, q⟩ := Mt_lift q
  exact ⟨F, n, σ, ρ, x, y, z, rx, ry, sl, wf, e, q⟩
/-- an expression whose value is a bool, as a test -/
theorem t_val (h : DE C a da) (he : ∀ whole, isTrue a C.X.env whole = (do let v ← whole; standAt a.pos; holding [v] (truthy v))) : DT C a (tst da) :=
  PT.imp (pt_val h he) fun σ H Q h => t_of (X := C.X) h

/-! ### truth -/
def tru : D → Option Bool
  | .non => some false
  | .bl b => some b
  | .int i => some (i != 0)
  | .str x => if x.length ≤ sizeLine then some ((x.length : Int) != 0) else none
  | .tup xs => some (!xs.isEmpty)
  | .lst xs => some (!xs.isEmpty)
  | .lsr xs => some (!xs.isEmpty)
  | .dct ks _ => some (!ks.isEmpty)
  | .ins _ _ _ => none
theorem RL.emp {K : PySem.W.Frag} {cl : Nat → Addr} {F : Addr → Prop} {H : Hp} {xs : List D} {vs : List V} (r : RL K cl F H xs vs) : vs.isEmpty = xs.isEmpty := by
  cases xs with
  | nil => rw [show vs = [] from r]; rfl
  | cons d ds => obtain ⟨v, us, e, _⟩ := r; rw [e]; rfl
theorem tru_of {K : PySem.W.Frag} {cl : Nat → Addr} {F : Addr → Prop} {H : Hp} {x : D} {v : V} {k : Bool} (r : R K cl F H x v) (e : tru x = some k) : TruV K v H k := by
  cases x with
  | non => cases r; cases e; rfl
  | bl b => cases r; cases e; rfl
  | int i => cases r; cases e; rfl
  | str z =>
    cases r
    have e : (if z.length ≤ sizeLine then some ((z.length : Int) != 0) else none) = some k := e
    by_cases h : z.length ≤ sizeLine
    · rw [if_pos h] at e
      cases e
      exact ⟨h, rfl⟩
    · rw [if_neg h] at e
      cases e
  | tup xs =>
    obtain ⟨a, vs, rfl, ht, rl⟩ := r
    cases e
    exact .inr (.inl ⟨vs, ht.seq, by rw [rl.emp]⟩)
  | lst xs =>
    obtain ⟨a, vs, rfl, _, ht, rl⟩ := r
    cases e
    exact .inl ⟨vs, SqL.of ht, by rw [rl.emp]⟩
  | lsr xs =>
    obtain ⟨a, vs, rfl, ht, rl⟩ := r
    cases e
    exact .inl ⟨vs, ht.seq, by rw [rl.emp]⟩
  | dct ks ds =>
    obtain ⟨a, kvs, rfl, _, h, hk, rl⟩ := r
    cases e
    refine .inr (.inr ⟨kvs, h, ?_⟩)
    rw [hk]
    cases kvs <;> rfl
  | ins c ns fs => cases e
def tstV (d : M D) : M Bool := bnd d fun z => lift (tru z)
theorem t_tru (h : DE C a da) (he : ∀ whole, isTrue a C.X.env whole = (do let v ← whole; standAt a.pos; holding [v] (truthy v))) : DT C a (tstV da) := by
  refine PT.imp (pt_truth h he) fun σ H Q ⟨F, ρ, n, sl, wf, q⟩ => ⟨F, ρ, n, sl, wf, q.bnd.imp fun x ρ1 q => ?_⟩
  obtain ⟨k, e, q⟩ := Mt_lift q
  intro v F1 H1 n1 rx sl1 wf1 ex1
  exact ⟨k, tru_of rx e, q F1 H1 n1 sl1 wf1 ex1⟩
def tnot (d : M Bool) : M Bool := bnd d fun b => ret (!b)
theorem t_not {d : M Bool} (h : DT C a d) : DT C (.UnaryOp .Not a pos) (tnot d) := by
  refine PT.imp (pt_not h) fun σ H Q ⟨F, ρ, n, sl, wf, q⟩ => ⟨F, ρ, n, sl, wf, q.bnd.imp fun x ρ1 q => ?_⟩
  intro F1 H1 n1 sl1 wf1 ex1
  exact q F1 H1 n1 sl1 wf1 ex1
/-- chains of and, or as tests -/
def DW (C : Cf) (e : Expr) (d : M Bool) : Prop := PW C.X e (tT C.X.K C.cl C.W d)
def tand (a b : M Bool) : M Bool := bnd a fun x => if x = true then b else ret false
def tor (a b : M Bool) : M Bool := bnd a fun x => if x = true then ret true else b
theorem PW.imp {X : Cx} {e : Expr} {t t' : TT} (h : PW X e t) (i : ∀ σ H Q, t' σ H Q → t σ H Q) : PW X e t' := ⟨fun w pins s σ H Q I q => h.run w pins s σ H Q I (i σ H Q q)⟩
theorem w_and1 {d : M Bool} (h : DT C a d) : DW C (.BoolOp .And [a] pos) d := pw_and1 h
theorem w_or1 {d : M Bool} (h : DT C a d) : DW C (.BoolOp .Or [a] pos) d := pw_or1 h
theorem w_and {d e : M Bool} {rest : List Expr} (h : DT C a d) (h2 : DW C (.BoolOp .And (b :: rest) pos) e) : DW C (.BoolOp .And (a :: b :: rest) pos) (tand d e) := by
  refine PW.imp (pw_and h h2) fun σ H Q ⟨F, ρ, n, sl, wf, q⟩ => ⟨F, ρ, n, sl, wf, q.bnd.imp fun x ρ1 q => ?_⟩
  intro F1 H1 n1 sl1 wf1 ex1
  cases x with
  | true => exact ⟨F1, ρ1, n1, sl1, wf1, Mt.step wf ex1 q fun a ρ' q => q.step wf ex1⟩
  | false => exact q F1 H1 n1 sl1 wf1 ex1
theorem w_or {d e : M Bool} {rest : List Expr} (h : DT C a d) (h2 : DW C (.BoolOp .Or (b :: rest) pos) e) : DW C (.BoolOp .Or (a :: b :: rest) pos) (tor d e) := by
  refine PW.imp (pw_or h h2) fun σ H Q ⟨F, ρ, n, sl, wf, q⟩ => ⟨F, ρ, n, sl, wf, q.bnd.imp fun x ρ1 q => ?_⟩
  intro F1 H1 n1 sl1 wf1 ex1
  cases x with
  | false => exact ⟨F1, ρ1, n1, sl1, wf1, Mt.step wf ex1 q fun a ρ' q => q.step wf ex1⟩
  | true => exact q F1 H1 n1 sl1 wf1 ex1
theorem t_bool {d : M Bool} (h : DW C a d) : DT C a d := PW.pt h
/-- as values: bools alone -/
def vand (a b : M D) : M D := bnd a fun x => bnd (lift (asB x)) fun k => if k = true then b else ret (.bl false)
def vor (a b : M D) : M D := bnd a fun x => bnd (lift (asB x)) fun k => if k = true then ret (.bl true) else b
theorem e_one {op} (h : DE C a da) : DE C (.BoolOp op [a] pos) da := pe_one h
theorem asB_R {K : PySem.W.Frag} {cl : Nat → Addr} {F : Addr → Prop} {H : Hp} {x : D} {v : V} {k : Bool} (r : R K cl F H x v) (e : asB x = some k) : v = .bl k := by
  cases x with
  | bl b => cases e; exact r
  | _ => cases e
theorem e_and {rest : List Expr} (h : DE C a da) (h2 : DE C (.BoolOp .And (b :: rest) pos) db) : DE C (.BoolOp .And (a :: b :: rest) pos) (vand da db) := by
  refine PE.imp (pe_and h h2) fun σ H Q ⟨F, ρ, n, sl, wf, q⟩ => ⟨F, ρ, n, sl, wf, q.bnd.imp fun x ρ1 q => ?_⟩
  obtain ⟨k, e, q⟩ := Mt_lift q.bnd
  intro v F1 H1 n1 rx sl1 wf1 ex1
  refine ⟨k, asB_R rx e, ?_⟩
  cases k with
  | true => exact ⟨F1, ρ1, n1, sl1, wf1, Mt.step wf ex1 q fun a ρ' q => q.step wf ex1⟩
  | false => exact q _ F1 H1 n1 rfl sl1 wf1 ex1
theorem e_or {rest : List Expr} (h : DE C a da) (h2 : DE C (.BoolOp .Or (b :: rest) pos) db) : DE C (.BoolOp .Or (a :: b :: rest) pos) (vor da db) := by
  refine PE.imp (pe_or h h2) fun σ H Q ⟨F, ρ, n, sl, wf, q⟩ => ⟨F, ρ, n, sl, wf, q.bnd.imp fun x ρ1 q => ?_⟩
  obtain ⟨k, e, q⟩ := Mt_lift q.bnd
  intro v F1 H1 n1 rx sl1 wf1 ex1
  refine ⟨k, asB_R rx e, ?_⟩
  cases k with
  | false => exact ⟨F1, ρ1, n1, sl1, wf1, Mt.step wf ex1 q fun a ρ' q => q.step wf ex1⟩
  | true => exact q _ F1 H1 n1 rfl sl1 wf1 ex1
def gnot : D → Option D
  | .bl k => some (.bl (!k))
  | _ => none
theorem e_not (h : DE C a da) : DE C (.UnaryOp .Not a pos) (una gnot da) := by
  refine PE.imp (pe_not h) fun σ H Q ⟨F, ρ, n, sl, wf, q⟩ => ⟨F, ρ, n, sl, wf, q.bnd.imp fun x ρ1 q => ?_⟩
  obtain ⟨z, e, q⟩ := Mt_lift q
  intro v F1 H1 n1 rx sl1 wf1 ex1
  cases x with
  | bl k =>
    cases e
    exact ⟨k, rx, q _ F1 H1 n1 rfl sl1 wf1 ex1⟩
  | _ => cases e
/-- not x by truth -/
theorem e_notT {d : M Bool} (h : PE C.X (.UnaryOp .Not a pos) (fun σ H Q => tT C.X.K C.cl C.W d σ H fun b H1 => Q (.bl (!b)) H1)) : DE C (.UnaryOp .Not a pos) (bnd d fun b => ret (.bl (!b))) := by
  refine PE.imp h fun σ H Q ⟨F, ρ, n, sl, wf, q⟩ => ⟨F, ρ, n, sl, wf, q.bnd.imp fun x ρ1 q => ?_⟩
  intro F1 H1 n1 sl1 wf1 ex1
  exact q _ F1 H1 n1 rfl sl1 wf1 ex1
/-- a if t else b -/
def ite' {α : Type} (t : M Bool) (a b : M α) : M α := bnd t fun k => if k = true then a else b
theorem e_if {c : Expr} {t : M Bool} (hc : DT C c t) (ha : DE C a da) (hb : DE C b db) : DE C (.IfExp c a b pos) (ite' t da db) := by
  refine PE.imp (pe_ifExp hc ha hb) fun σ H Q ⟨F, ρ, n, sl, wf, q⟩ => ⟨F, ρ, n, sl, wf, q.bnd.imp fun k ρ1 q => ?_⟩
  intro F1 H1 n1 sl1 wf1 ex1
  cases k with
  | true => exact ⟨F1, ρ1, n1, sl1, wf1, Mt.step wf ex1 q fun a ρ' q => q.step wf ex1⟩
  | false => exact ⟨F1, ρ1, n1, sl1, wf1, Mt.step wf ex1 q fun a ρ' q => q.step wf ex1⟩
theorem o_if {c : Expr} {t : M Bool} {oa ob : M RV} (hc : DT C c t) (ha : DO C a oa) (hb : DO C b ob) : DO C (.IfExp c a b pos) (ite' t oa ob) := by
  refine PE.imp (pe_ifExp hc ha hb) fun σ H Q ⟨F, ρ, n, sl, wf, q⟩ => ⟨F, ρ, n, sl, wf, q.bnd.imp fun k ρ1 q => ?_⟩
  intro F1 H1 n1 sl1 wf1 ex1
  cases k with
  | true => exact ⟨F1, ρ1, n1, sl1, wf1, Mt.step wf ex1 q fun a ρ' q => q.step wf ex1⟩
  | false => exact ⟨F1, ρ1, n1, sl1, wf1, Mt.step wf ex1 q fun a ρ' q => q.step wf ex1⟩

/-! ### x is None -/
def gisN : D → Option D
  | .non => some (.bl true)
  | _ => some (.bl false)
def gnotN : D → Option D
  | .non => some (.bl false)
  | _ => some (.bl true)
theorem R_non {K : PySem.W.Frag} {cl : Nat → Addr} {F : Addr → Prop} {H : Hp} {x : D} {v : V} (r : R K cl F H x v) : gisN x = some (.bl (decide (v = .non))) ∧ gnotN x = some (.bl (!decide (v = .non))) := by
  cases x with
  | non => cases r; exact ⟨rfl, rfl⟩
  | bl b => cases r; exact ⟨rfl, rfl⟩
  | int i => cases r; exact ⟨rfl, rfl⟩
  | str z => cases r; exact ⟨rfl, rfl⟩
  | tup xs => obtain ⟨a, vs, rfl, _⟩ := r; exact ⟨rfl, rfl⟩
  | lst xs => obtain ⟨a, vs, rfl, _⟩ := r; exact ⟨rfl, rfl⟩
  | lsr xs => obtain ⟨a, vs, rfl, _⟩ := r; exact ⟨rfl, rfl⟩
  | dct ks ds => obtain ⟨a, kvs, rfl, _⟩ := r; exact ⟨rfl, rfl⟩
  | ins c ns fs => obtain ⟨a, dx, vs, rfl, _⟩ := r; exact ⟨rfl, rfl⟩
theorem i_isN {σ : L2.St} {H : Hp} {Q : VK} (h : tE C.X.K C.cl C.W (una gisN da) σ H Q) : tIsN (tE C.X.K C.cl C.W da) σ H Q := by
  obtain ⟨F, ρ, n, sl, wf, q⟩ := h
  refine ⟨F, ρ, n, sl, wf, q.bnd.imp fun x ρ1 q => ?_⟩
  obtain ⟨z, e, q⟩ := Mt_lift q
  intro v F1 H1 n1 rx sl1 wf1 ex1
  rw [(R_non rx).1] at e
  cases e
  exact q _ F1 H1 n1 rfl sl1 wf1 ex1
theorem i_notN {σ : L2.St} {H : Hp} {Q : VK} (h : tE C.X.K C.cl C.W (una gnotN da) σ H Q) : tNotN (tE C.X.K C.cl C.W da) σ H Q := by
  obtain ⟨F, ρ, n, sl, wf, q⟩ := h
  refine ⟨F, ρ, n, sl, wf, q.bnd.imp fun x ρ1 q => ?_⟩
  obtain ⟨z, e, q⟩ := Mt_lift q
  intro v F1 H1 n1 rx sl1 wf1 ex1
  rw [(R_non rx).2] at e
  cases e
  exact q _ F1 H1 n1 rfl sl1 wf1 ex1
theorem e_isN {j pos'} (ha : DE C a da) : DE C (.Compare a [.Is] [.Constant .none j pos'] pos) (una gisN da) := PE.imp (pe_cmp (pc_isN ha)) fun σ H Q h => i_isN h
theorem e_notN {j pos'} (ha : DE C a da) : DE C (.Compare a [.IsNot] [.Constant .none j pos'] pos) (una gnotN da) := PE.imp (pe_cmp (pc_notN ha)) fun σ H Q h => i_notN h
theorem t_isN {j pos'} (ha : DE C a da) : DT C (.Compare a [.Is] [.Constant .none j pos'] pos) (tst (una gisN da)) := PT.imp (pt_cmp (pc_isN ha)) fun σ H Q h => i_isN (t_of (X := C.X) h)
theorem t_notN {j pos'} (ha : DE C a da) : DT C (.Compare a [.IsNot] [.Constant .none j pos'] pos) (tst (una gnotN da)) := PT.imp (pt_cmp (pc_notN ha)) fun σ H Q h => i_notN (t_of (X := C.X) h)
end
end KR

set_option Elab.async false
set_option linter.all false
set_option maxRecDepth 100000
set_option maxHeartbeats 2000000
/-! Rules: what the operators do with data. -/
namespace KR
open PySem L2 PyProof.Rows

/-! ### operators -/
def gadd : D → D → Option D
  | .int a, .int b => some (.int (a + b))
  | .str a, .str b => if a.length + b.length ≤ sizeLine then some (.str (a ++ b)) else none
  | .tup a, .tup b => if a.length + b.length ≤ sizeLine then some (.tup (a ++ b)) else none
  | .lst a, .lst b => if a.length + b.length ≤ sizeLine then some (.lst (a ++ b)) else none
  | _, _ => none
def gsub : D → D → Option D
  | .int a, .int b => some (.int (a - b))
  | _, _ => none
def gmul : D → D → Option D
  | .int a, .int b => if a.natAbs.log2 + b.natAbs.log2 < 1000000 ∨ (-(2 ^ 64) < a ∧ a < 2 ^ 64) ∨ (-(2 ^ 64) < b ∧ b < 2 ^ 64) then some (.int (a * b)) else none
  | .lst a, .int b => if b < 2 ^ 62 ∧ -(2 ^ 62) < b ∧ a.length * b.toNat ≤ sizeLine then some (.lst (List.replicate b.toNat a).flatten) else none
  | _, _ => none
def gdiv : D → D → Option D
  | .int a, .int b => if 0 < b ∧ b.natAbs.log2 < 9000 then some (.int (a / b)) else none
  | _, _ => none
def gmod : D → D → Option D
  | .int a, .int b => if 0 < b then some (.int (a % b)) else none
  | _, _ => none
def gpow : D → D → Option D
  | .int a, .int b => if 0 ≤ b ∧ b ≤ 1000000 ∧ a.natAbs < 2 ^ 64 then some (.int (a ^ b.toNat)) else none
  | _, _ => none
def gand : D → D → Option D
  | .int a, .int b => some (.int (Builtin.bitAnd a b))
  | _, _ => none
def gneg : D → Option D
  | .int a => some (.int (-a))
  | _ => none
def gI (p : Int → Int → Bool) : D → D → Option D
  | .int a, .int b => some (.bl (p a b))
  | _, _ => none
/-! data that == speaks of -/
mutual
def D.py : D → Option PyData
  | .non => some .none
  | .bl b => some (.bool b)
  | .int i => some (.int i)
  | .str x => some (.str x)
  | .tup xs => (D.pys xs).map .tuple
  | .lst xs => (D.pys xs).map .list
  | .lsr xs => (D.pys xs).map .list
  | .dct _ _ => none
  | .ins _ _ _ => none
def D.pys : List D → Option (List PyData)
  | [] => some []
  | x :: xs => match D.py x, D.pys xs with
    | some p, some ps => some (p :: ps)
    | _, _ => none
end
def deqD (x y : D) : Option Bool :=
  match D.py x, D.py y with
  | some p, some q => if SeqAt.shaped p = true ∧ SeqAt.shaped q = true then some (PyData.eqv p q) else none
  | _, _ => none
def deq : D → D → Option Bool
  | .int a, .int b => some (decide (a = b))
  | .str a, .str b => some (decide (a = b))
  | .bl a, .bl b => some (decide (a = b))
  | .non, .non => some true
  | .non, .int _ => some false
  | .int _, .non => some false
  | .non, .str _ => some false
  | .str _, .non => some false
  | .non, .bl _ => some false
  | .bl _, .non => some false
  | .int _, .str _ => some false
  | .str _, .int _ => some false
  | x, y => deqD x y
def geq (x y : D) : Option D := (deq x y).map .bl
def gne (x y : D) : Option D := (deq x y).map fun b => .bl (!b)

mutual
theorem R.dp {K : PySem.W.Frag} {cl : Nat → Addr} {F : Addr → Prop} {H : Hp} : ∀ {x : D} {v : V} {p : PyData}, R K cl F H x v → D.py x = some p → Dp K H v p
  | .non, _, _, r, e => by cases r; cases e; exact .non
  | .bl b, _, _, r, e => by cases r; cases e; exact .bl b
  | .int b, _, _, r, e => by cases r; cases e; exact .int b
  | .str b, _, _, r, e => by cases r; cases e; exact .str b
  | .tup xs, _, _, ⟨a, vs, ev, ht, rl⟩, e => by
    subst ev
    have e : (D.pys xs).map PyData.tuple = some _ := e
    cases h : D.pys xs with
    | none => rw [h] at e; cases e
    | some ps => rw [h] at e; cases e; exact .tup ht.seq (RL.dp rl h)
  | .lst xs, _, _, ⟨a, vs, ev, _, ht, rl⟩, e => by
    subst ev
    have e : (D.pys xs).map PyData.list = some _ := e
    cases h : D.pys xs with
    | none => rw [h] at e; cases e
    | some ps => rw [h] at e; cases e; exact .lst (SqL.of ht) (RL.dp rl h)
  | .lsr xs, _, _, ⟨a, vs, ev, ht, rl⟩, e => by
    subst ev
    have e : (D.pys xs).map PyData.list = some _ := e
    cases h : D.pys xs with
    | none => rw [h] at e; cases e
    | some ps => rw [h] at e; cases e; exact .lst ht.seq (RL.dp rl h)
  | .dct _ _, _, _, _, e => by cases e
  | .ins _ _ _, _, _, _, e => by cases e
theorem RL.dp {K : PySem.W.Frag} {cl : Nat → Addr} {F : Addr → Prop} {H : Hp} : ∀ {xs : List D} {vs : List V} {ps : List PyData}, RL K cl F H xs vs → D.pys xs = some ps → DpAll K H vs ps
  | [], _, _, r, e => by rw [show _ = [] from r]; cases e; exact .nil
  | x :: xs, _, _, ⟨v, us, ev, r, rs⟩, e => by
    subst ev
    unfold D.pys at e
    cases h1 : D.py x with
    | none => rw [h1] at e; cases e
    | some p =>
      cases h2 : D.pys xs with
      | none => rw [h1, h2] at e; cases e
      | some ps => rw [h1, h2] at e; cases e; exact .cons (R.dp r h1) (RL.dp rs h2)
end

section
variable {X : Cx} {cl : Nat → Addr}
theorem d_add : OpR X (binaryOp .Add) (opR X.K cl gadd) := by
  intro pins s σ' H vx vy v u Q I rx ry ⟨F, n, σ, ρ, x, y, z, hx, hy, sl, wf, e, q⟩
  cases x with
  | int i =>
    cases y with
    | int j => cases hx; cases hy; cases e; exact op_add pins s σ' H _ _ v u Q I rx ry ⟨i, j, rfl, rfl, q.here rfl sl wf⟩
    | _ => cases e
  | str i =>
    cases y with
    | str j =>
      cases hx; cases hy
      unfold gadd at e
      dsimp only at e
      split at e
      · rename_i hz
        cases e; exact op_add_str pins s σ' H _ _ v u Q I rx ry ⟨i, j, rfl, rfl, hz, q.here rfl sl wf⟩
      · cases e
    | _ => cases e
  | tup xs =>
    cases y with
    | tup ys =>
      obtain ⟨a, vs, ea, ha, ra⟩ := hx
      obtain ⟨b, us, eb, hb, rb⟩ := hy
      unfold gadd at e
      dsimp only at e
      split at e
      · rename_i hz
        cases e
        have l1 := ra.length
        have l2 := rb.length
        refine op_catA pins s σ' H _ _ v u Q I rx ry ⟨a, b, vs, us, ea, eb, ha.seq, hb.seq, by omega, fun z => ?_, fun z1 z2 => ?_, fun z1 z2 p hp => ?_⟩
        · subst z
          have : xs = [] := List.eq_nil_of_length_eq_zero l1.symm
          subst this
          exact q.here ⟨b, us, rfl, hb, rb⟩ sl wf
        · subst z2
          have : ys = [] := List.eq_nil_of_length_eq_zero l2.symm
          subst this
          rw [List.append_nil] at q
          exact q.here ⟨a, vs, rfl, ha, ra⟩ sl wf
        · exact q.tup hp sl wf (ra.append rb)
      · cases e
    | _ => cases e
  | lst xs =>
    cases y with
    | lst ys =>
      obtain ⟨a, vs, ea, _, ha, ra⟩ := hx
      obtain ⟨b, us, eb, _, hb, rb⟩ := hy
      unfold gadd at e
      dsimp only at e
      split at e
      · rename_i hz
        cases e
        have l1 := ra.length
        have l2 := rb.length
        exact op_cat pins s σ' H _ _ v u Q I rx ry ⟨a, b, vs, us, ea, eb, ha, hb, by omega, fun p hp => q.lst hp sl wf (ra.append rb)⟩
      · cases e
    | _ => cases e
  | _ => cases e
theorem d_int {f : Value → Value → Sem Value} {Cd : Int → Int → Prop} {r : Int → Int → Int} {g : D → D → Option D} (h : OpR X f (rI Cd fun i j => .int (r i j)))
    (hg : ∀ x y z, g x y = some z → ∃ i j, x = .int i ∧ y = .int j ∧ Cd i j ∧ z = .int (r i j)) : OpR X f (opR X.K cl g) := by
  intro pins s σ' H vx vy v u Q I rx ry ⟨F, n, σ, ρ, x, y, z, hx, hy, sl, wf, e, q⟩
  obtain ⟨i, j, rfl, rfl, hc, rfl⟩ := hg x y z e
  cases hx; cases hy
  exact h pins s σ' H _ _ v u Q I rx ry ⟨i, j, rfl, rfl, hc, q.here rfl sl wf⟩
theorem d_sub : OpR X (binaryOp .Sub) (opR X.K cl gsub) := by
  intro pins s σ' H vx vy v u Q I rx ry ⟨F, n, σ, ρ, x, y, z, hx, hy, sl, wf, e, q⟩
  cases x with
  | int i =>
    cases y with
    | int j => cases hx; cases hy; cases e; exact op_sub pins s σ' H _ _ v u Q I rx ry ⟨i, j, rfl, rfl, q.here rfl sl wf⟩
    | _ => cases e
  | _ => cases e
theorem d_mul : OpR X (binaryOp .Mult) (opR X.K cl gmul) := by
  intro pins s σ' H vx vy v u Q I rx ry ⟨F, n, σ, ρ, x, y, z, hx, hy, sl, wf, e, q⟩
  cases x with
  | int i =>
    cases y with
    | int j =>
      cases hx; cases hy
      unfold gmul at e
      dsimp only at e
      split at e
      · rename_i hz
        cases e
        rcases hz with hz | hz
        · exact op_mulW pins s σ' H _ _ v u Q I rx ry ⟨i, j, rfl, rfl, hz, q.here rfl sl wf⟩
        · exact L2.op_mul pins s σ' H _ _ v u Q I rx ry ⟨i, j, rfl, rfl, hz, q.here rfl sl wf⟩
      · cases e
    | _ => cases e
  | lst xs =>
    cases y with
    | int j =>
      obtain ⟨a, vs, ea, _, ha, ra⟩ := hx
      cases hy
      unfold gmul at e
      dsimp only at e
      split at e
      · rename_i hz
        obtain ⟨h1, h2, h3⟩ := hz
        cases e
        have l1 := ra.length
        have rep : ∀ k : Nat, RL X.K cl F H (List.replicate k xs).flatten (List.replicate k vs).flatten := fun k => by
          induction k with
          | zero => exact rfl
          | succ k ih => simp only [List.replicate_succ, List.flatten_cons]; exact ra.append ih
        exact op_rep pins s σ' H _ _ v u Q I rx ry ⟨a, j, vs, ea, rfl, ha, by omega, by omega, by rw [l1]; exact h3, fun p hp => q.lst hp sl wf (rep _)⟩
      · cases e
    | _ => cases e
  | _ => cases e
theorem d_div : OpR X (binaryOp .FloorDiv) (opR X.K cl gdiv) := d_int op_fdivW fun x y z e => by
  cases x with
  | int i =>
    cases y with
    | int j =>
      unfold gdiv at e
      dsimp only at e
      split at e
      · rename_i hz
        cases e; exact ⟨i, j, rfl, rfl, hz, rfl⟩
      · cases e
    | _ => cases e
  | _ => cases e
theorem d_mod : OpR X (binaryOp .Mod) (opR X.K cl gmod) := d_int op_mod fun x y z e => by
  cases x with
  | int i =>
    cases y with
    | int j =>
      unfold gmod at e
      dsimp only at e
      split at e
      · rename_i hz
        cases e; exact ⟨i, j, rfl, rfl, hz, rfl⟩
      · cases e
    | _ => cases e
  | _ => cases e
theorem d_pow : OpR X (binaryOp .Pow) (opR X.K cl gpow) := d_int op_pow fun x y z e => by
  cases x with
  | int i =>
    cases y with
    | int j =>
      unfold gpow at e
      dsimp only at e
      split at e
      · rename_i hz
        cases e; exact ⟨i, j, rfl, rfl, hz, rfl⟩
      · cases e
    | _ => cases e
  | _ => cases e
theorem d_and : OpR X (binaryOp .BitAnd) (opR X.K cl gand) := by
  intro pins s σ' H vx vy v u Q I rx ry ⟨F, n, σ, ρ, x, y, z, hx, hy, sl, wf, e, q⟩
  cases x with
  | int i =>
    cases y with
    | int j => cases hx; cases hy; cases e; exact op_and pins s σ' H _ _ v u Q I rx ry ⟨i, j, rfl, rfl, q.here rfl sl wf⟩
    | _ => cases e
  | _ => cases e
theorem d_neg : UnR X (unaryOp .USub) (opR1 X.K cl gneg) := by
  intro pins s σ' H vx v Q I rx ⟨F, n, σ, ρ, x, z, hx, sl, wf, e, q⟩
  cases x with
  | int i => cases hx; cases e; exact un_neg pins s σ' H _ v Q I rx ⟨i, rfl, q.here rfl sl wf⟩
  | _ => cases e
theorem d_I {op : CmpOp} {p : Int → Int → Bool} (h : OpR X (compareOp op) (rI0 fun i j => .bl (p i j))) : OpR X (compareOp op) (opR X.K cl (gI p)) := by
  intro pins s σ' H vx vy v u Q I rx ry ⟨F, n, σ, ρ, x, y, z, hx, hy, sl, wf, e, q⟩
  cases x with
  | int i =>
    cases y with
    | int j => cases hx; cases hy; cases e; exact h pins s σ' H _ _ v u Q I rx ry ⟨i, j, rfl, rfl, q.here rfl sl wf⟩
    | _ => cases e
  | _ => cases e
def glt : D → D → Option D := gI fun a b => decide (a < b)
def gle : D → D → Option D := gI fun a b => decide (a ≤ b)
def ggt : D → D → Option D := gI fun a b => decide (b < a)
def gge : D → D → Option D := gI fun a b => decide (b ≤ a)
theorem d_lt : OpR X (compareOp .Lt) (opR X.K cl glt) := d_I op_lt
theorem d_le : OpR X (compareOp .LtE) (opR X.K cl gle) := d_I op_le
theorem d_gt : OpR X (compareOp .Gt) (opR X.K cl ggt) := d_I op_gt
theorem d_ge : OpR X (compareOp .GtE) (opR X.K cl gge) := d_I op_ge

theorem deq_dp {K : PySem.W.Frag} {F : Addr → Prop} {H : Hp} {x y : D} {vx vy : V} {b : Bool} (hx : R K cl F H x vx) (hy : R K cl F H y vy) (e : deqD x y = some b) : ∃ p q, Dp K H vx p ∧ Dp K H vy q ∧ SeqAt.shaped p = true ∧ SeqAt.shaped q = true ∧ b = PyData.eqv p q := by
  unfold deqD at e
  cases h1 : D.py x with
  | none => rw [h1] at e; cases e
  | some p =>
    cases h2 : D.py y with
    | none => rw [h1, h2] at e; cases e
    | some q =>
      rw [h1, h2] at e
      dsimp only at e
      split at e
      · rename_i hs
        cases e
        exact ⟨p, q, R.dp hx h1, R.dp hy h2, hs.1, hs.2, rfl⟩
      · cases e
/-- == by values: flat, or as data -/
theorem deq_or {K : PySem.W.Frag} {F : Addr → Prop} {H : Hp} {x y : D} {vx vy : V} {b : Bool} (hx : R K cl F H x vx) (hy : R K cl F H y vy) (e : deq x y = some b) :
    (scal vx vy = true ∧ b = decide (vx = vy)) ∨ ∃ p q, Dp K H vx p ∧ Dp K H vy q ∧ SeqAt.shaped p = true ∧ SeqAt.shaped q = true ∧ b = PyData.eqv p q := by
  unfold deq at e
  split at e
  · cases hx; cases hy; cases e; left; refine ⟨rfl, ?_⟩; simp
  · cases hx; cases hy; cases e; left; refine ⟨rfl, ?_⟩; simp
  · cases hx; cases hy; cases e; left; refine ⟨rfl, ?_⟩; simp
  · cases hx; cases hy; cases e; left; refine ⟨rfl, ?_⟩; simp
  · cases hx; cases hy; cases e; left; refine ⟨rfl, ?_⟩; simp
  · cases hx; cases hy; cases e; left; refine ⟨rfl, ?_⟩; simp
  · cases hx; cases hy; cases e; left; refine ⟨rfl, ?_⟩; simp
  · cases hx; cases hy; cases e; left; refine ⟨rfl, ?_⟩; simp
  · cases hx; cases hy; cases e; left; refine ⟨rfl, ?_⟩; simp
  · cases hx; cases hy; cases e; left; refine ⟨rfl, ?_⟩; simp
  · cases hx; cases hy; cases e; left; refine ⟨rfl, ?_⟩; simp
  · cases hx; cases hy; cases e; left; refine ⟨rfl, ?_⟩; simp
  · exact .inr (deq_dp hx hy e)
theorem d_eq (hu : X.A.units + 64 < cLine) : OpR X (compareOp .Eq) (opR X.K cl geq) := by
  intro pins s σ' H vx vy v u Q I rx ry ⟨F, n, σ, ρ, x, y, z, hx, hy, sl, wf, e, q⟩
  unfold geq at e
  cases h : deq x y with
  | none => rw [h] at e; cases e
  | some b =>
    rw [h] at e
    cases e
    rcases deq_or hx hy h with ⟨h1, h2⟩ | ⟨p, p', h1, h2, h3, h4, h5⟩
    · exact op_eq pins s σ' H _ _ v u Q I rx ry ⟨h1, q.here (by rw [h2]; exact rfl) sl wf⟩
    · exact op_eqD hu pins s σ' H _ _ v u Q I rx ry ⟨p, p', h1, h2, h3, h4, q.here (by rw [h5]; exact rfl) sl wf⟩
theorem d_ne (hu : X.A.units + 64 < cLine) : OpR X (compareOp .NotEq) (opR X.K cl gne) := by
  intro pins s σ' H vx vy v u Q I rx ry ⟨F, n, σ, ρ, x, y, z, hx, hy, sl, wf, e, q⟩
  unfold gne at e
  cases h : deq x y with
  | none => rw [h] at e; cases e
  | some b =>
    rw [h] at e
    cases e
    rcases deq_or hx hy h with ⟨h1, h2⟩ | ⟨p, p', h1, h2, h3, h4, h5⟩
    · exact op_ne pins s σ' H _ _ v u Q I rx ry ⟨h1, q.here (by rw [h2]; exact rfl) sl wf⟩
    · exact op_neD hu pins s σ' H _ _ v u Q I rx ry ⟨p, p', h1, h2, h3, h4, q.here (by rw [h5]; exact rfl) sl wf⟩

/-! ### in, not in -/
def isfl : D → Bool
  | .non => true
  | .bl _ => true
  | .int _ => true
  | .str _ => true
  | _ => false
/-- == of flat data -/
def feq : D → D → Bool
  | .non, .non => true
  | .bl a, .bl b => a == b
  | .bl a, .int b => (if a then 1 else 0) == b
  | .int a, .bl b => a == (if b then 1 else 0)
  | .int a, .int b => a == b
  | .str a, .str b => a == b
  | _, _ => false
def dinL (x : D) (ys : List D) : Option Bool :=
  if isfl x = true ∧ ys.all isfl = true then some (ys.any fun y => feq y x)
  else match D.py x, D.pys ys with
    | some p, some qs => if SeqAt.shaped p = true ∧ SeqAt.shaped (.list qs) = true then some (qs.any fun q => PyData.eqv q p) else none
    | _, _ => none
def din (x : D) : D → Option Bool
  | .tup ys => dinL x ys
  | .lst ys => dinL x ys
  | .str z => match x with
    | .str y => match y.cps.toList with
      | [c] => some (decide (c ∈ z.cps.toList))
      | _ => none
    | _ => none
  | _ => none
def gin (x y : D) : Option D := (din x y).map .bl
def gnin (x y : D) : Option D := (din x y).map fun b => .bl (!b)
theorem isfl_V {K : PySem.W.Frag} {F : Addr → Prop} {H : Hp} {x : D} {v : V} (r : R K cl F H x v) (h : isfl x = true) : flatV v = true := by
  cases x with
  | non => cases r; rfl
  | bl _ => cases r; rfl
  | int _ => cases r; rfl
  | str _ => cases r; rfl
  | _ => cases h
theorem feq_V {K : PySem.W.Frag} {F : Addr → Prop} {H : Hp} {x y : D} {v u : V} (r : R K cl F H x v) (r2 : R K cl F H y u) (h : isfl x = true) (h2 : isfl y = true) : feq x y = eqV v u := by
  cases x with
  | non =>
    cases r
    cases y with
    | non => cases r2; rfl
    | bl _ => cases r2; rfl
    | int _ => cases r2; rfl
    | str _ => cases r2; rfl
    | _ => cases h2
  | bl _ =>
    cases r
    cases y with
    | non => cases r2; rfl
    | bl _ => cases r2; rfl
    | int _ => cases r2; rfl
    | str _ => cases r2; rfl
    | _ => cases h2
  | int _ =>
    cases r
    cases y with
    | non => cases r2; rfl
    | bl _ => cases r2; rfl
    | int _ => cases r2; rfl
    | str _ => cases r2; rfl
    | _ => cases h2
  | str _ =>
    cases r
    cases y with
    | non => cases r2; rfl
    | bl _ => cases r2; rfl
    | int _ => cases r2; rfl
    | str _ => cases r2; rfl
    | _ => cases h2
  | _ => cases h
theorem flat_all {K : PySem.W.Frag} {F : Addr → Prop} {H : Hp} : ∀ {xs : List D} {vs : List V}, RL K cl F H xs vs → xs.all isfl = true → vs.all flatV = true
  | [], _, r, _ => by rw [show _ = [] from r]; rfl
  | x :: xs, _, ⟨v, us, e, r, rs⟩, h => by
    rw [e]
    rw [List.all_cons, Bool.and_eq_true] at h ⊢
    exact ⟨isfl_V r h.1, flat_all rs h.2⟩
theorem any_V {K : PySem.W.Frag} {F : Addr → Prop} {H : Hp} {x : D} {v : V} (r : R K cl F H x v) (h : isfl x = true) : ∀ {xs : List D} {vs : List V}, RL K cl F H xs vs → xs.all isfl = true → inV v vs = xs.any fun y => feq y x
  | [], _, r, _ => by rw [show _ = [] from r]; rfl
  | y :: xs, _, ⟨u, us, e, ry, rs⟩, hs => by
    rw [e]
    rw [List.all_cons, Bool.and_eq_true] at hs
    show (eqV u v || inV v us) = (feq y x || xs.any fun y => feq y x)
    rw [feq_V ry r hs.1 h, any_V r h rs hs.2]
/-- in by values -/
theorem dinL_or {K : PySem.W.Frag} {F : Addr → Prop} {H : Hp} {x : D} {v : V} {ys : List D} {us : List V} {b : Bool} (r : R K cl F H x v) (rs : RL K cl F H ys us) (e : dinL x ys = some b) :
    (flatV v = true ∧ us.all flatV = true ∧ b = inV v us) ∨ ∃ p qs, Dp K H v p ∧ DpAll K H us qs ∧ SeqAt.shaped p = true ∧ SeqAt.shaped (.list qs) = true ∧ b = qs.any fun q => PyData.eqv q p := by
  unfold dinL at e
  split at e
  · rename_i h
    cases e
    exact .inl ⟨isfl_V r h.1, flat_all rs h.2, (any_V r h.1 rs h.2).symm⟩
  · cases h1 : D.py x with
    | none => rw [h1] at e; cases e
    | some p =>
      cases h2 : D.pys ys with
      | none => rw [h1, h2] at e; cases e
      | some qs =>
        rw [h1, h2] at e
        dsimp only at e
        split at e
        · rename_i hs
          cases e
          exact .inr ⟨p, qs, R.dp r h1, RL.dp rs h2, hs.1, hs.2, rfl⟩
        · cases e
end
end KR

set_option Elab.async false
set_option linter.all false
set_option maxRecDepth 100000
set_option maxHeartbeats 2000000
/-! Rules: in, places, slices, lengths, displays, calls of built-ins. -/
namespace KR
open PySem L2 PyProof.Rows
section
variable {X : Cx} {cl : Nat → Addr}
theorem op_inDT (hu : X.A.units + 65 < cLine) : OpR X (compareOp .In) (fun x y H Q => ∃ d ds, Dp X.K H x d ∧ Dp X.K H y (.tuple ds) ∧ SeqAt.shaped d = true ∧ SeqAt.shaped (.list ds) = true ∧ Q (.bl (ds.any fun z => PyData.eqv z d)) H) := by
  intro pins s σ H x y v u Q I rx ry h
  obtain ⟨d, ds, hd, he, sd, se, q⟩ := h
  obtain ⟨as, r1⟩ := Dp.reads I d x v hd rx
  obtain ⟨bs, r2⟩ := Dp.reads I (.tuple ds) y u he ry
  exact SeqAt.in_tuple_reads r2 r1 (SeqAt.canLay_of_shaped se) (SeqAt.canLay_of_shaped sd) (room_in_shaped sd hu) ⟨.bl _, H, I, rfl, q⟩
theorem op_notInDT (hu : X.A.units + 65 < cLine) : OpR X (compareOp .NotIn) (fun x y H Q => ∃ d ds, Dp X.K H x d ∧ Dp X.K H y (.tuple ds) ∧ SeqAt.shaped d = true ∧ SeqAt.shaped (.list ds) = true ∧ Q (.bl (!ds.any fun z => PyData.eqv z d)) H) := by
  intro pins s σ H x y v u Q I rx ry h
  obtain ⟨d, ds, hd, he, sd, se, q⟩ := h
  obtain ⟨as, r1⟩ := Dp.reads I d x v hd rx
  obtain ⟨bs, r2⟩ := Dp.reads I (.tuple ds) y u he ry
  exact SeqAt.notIn_tuple_reads r2 r1 (SeqAt.canLay_of_shaped se) (SeqAt.canLay_of_shaped sd) (room_in_shaped sd hu) ⟨.bl _, H, I, rfl, q⟩
/-- what din says, by values -/
theorem din_cases {F : Addr → Prop} {H : Hp} {x y : D} {vx vy : V} {b : Bool} (hx : R X.K cl F H x vx) (hy : R X.K cl F H y vy) (e : din x y = some b) :
    (∃ p us, vy = .ref p ∧ (SqL X.K H p us ∨ SqT X.K H p us) ∧ flatV vx = true ∧ us.all flatV = true ∧ b = inV vx us) ∨
    (∃ d ds, Dp X.K H vx d ∧ Dp X.K H vy (.list ds) ∧ SeqAt.shaped d = true ∧ SeqAt.shaped (.list ds) = true ∧ b = ds.any fun z => PyData.eqv z d) ∨
    (∃ d ds, Dp X.K H vx d ∧ Dp X.K H vy (.tuple ds) ∧ SeqAt.shaped d = true ∧ SeqAt.shaped (.list ds) = true ∧ b = ds.any fun z => PyData.eqv z d) ∨
    ∃ (c : Nat) (z : Str), vx = .str ⟨#[c]⟩ ∧ vy = .str z ∧ b = decide (c ∈ z.cps.toList) := by
  cases y with
  | tup ys =>
    obtain ⟨a, us, rfl, ht, rs⟩ := hy
    have e : dinL x ys = some b := by cases x <;> exact e
    rcases dinL_or hx rs e with ⟨h1, h2, h3⟩ | ⟨p, qs, h1, h2, h3, h4, h5⟩
    · exact .inl ⟨a, us, rfl, .inr ht.seq, h1, h2, h3⟩
    · exact .inr (.inr (.inl ⟨p, qs, h1, .tup ht.seq h2, h3, h4, h5⟩))
  | lst ys =>
    obtain ⟨a, us, rfl, _, ht, rs⟩ := hy
    have e : dinL x ys = some b := by cases x <;> exact e
    rcases dinL_or hx rs e with ⟨h1, h2, h3⟩ | ⟨p, qs, h1, h2, h3, h4, h5⟩
    · exact .inl ⟨a, us, rfl, .inl (SqL.of ht), h1, h2, h3⟩
    · exact .inr (.inl ⟨p, qs, h1, .lst (SqL.of ht) h2, h3, h4, h5⟩)
  | str z =>
    cases hy
    cases x with
    | str y =>
      cases hx
      have e : (match y.cps.toList with | [c] => some (decide (c ∈ z.cps.toList)) | _ => none) = some b := e
      split at e
      · rename_i c hc
        cases e
        refine .inr (.inr (.inr ⟨c, z, ?_, rfl, rfl⟩))
        have : y = ⟨#[c]⟩ := by
          cases y with
          | mk a =>
            have h2 : a.toList = [c] := hc
            congr 1
            exact Array.toList_inj.mp (by rw [h2])
        rw [this]
      · cases e
    | _ => cases e
  | _ => cases e
theorem d_in (hu : X.A.units + 65 < cLine) : OpR X (compareOp .In) (opR X.K cl gin) := by
  intro pins s σ' H vx vy v u Q I rx ry ⟨F, n, σ, ρ, x, y, z, hx, hy, sl, wf, e, q⟩
  unfold gin at e
  cases h : din x y with
  | none => rw [h] at e; cases e
  | some b =>
    rw [h] at e
    cases e
    have q' : Q (.bl b) H := q.here rfl sl wf
    rcases din_cases (X := X) hx hy h with ⟨p, us, rfl, h1, h2, h3, rfl⟩ | ⟨d, ds, h1, h2, h3, h4, rfl⟩ | ⟨d, ds, h1, h2, h3, h4, rfl⟩ | ⟨c, z, rfl, rfl, rfl⟩
    · exact op_in_seq pins s σ' H _ _ v u Q I rx ry ⟨p, us, rfl, h1, h2, h3, q'⟩
    · exact op_inD hu pins s σ' H _ _ v u Q I rx ry ⟨d, ds, h1, h2, h3, h4, q'⟩
    · exact op_inDT hu pins s σ' H _ _ v u Q I rx ry ⟨d, ds, h1, h2, h3, h4, q'⟩
    · exact op_in_sign pins s σ' H _ _ v u Q I rx ry ⟨c, z, rfl, rfl, q'⟩
theorem d_notin (hu : X.A.units + 65 < cLine) : OpR X (compareOp .NotIn) (opR X.K cl gnin) := by
  intro pins s σ' H vx vy v u Q I rx ry ⟨F, n, σ, ρ, x, y, z, hx, hy, sl, wf, e, q⟩
  unfold gnin at e
  cases h : din x y with
  | none => rw [h] at e; cases e
  | some b =>
    rw [h] at e
    cases e
    have q' : Q (.bl (!b)) H := q.here rfl sl wf
    rcases din_cases (X := X) hx hy h with ⟨p, us, rfl, h1, h2, h3, rfl⟩ | ⟨d, ds, h1, h2, h3, h4, rfl⟩ | ⟨d, ds, h1, h2, h3, h4, rfl⟩ | ⟨c, z, rfl, rfl, rfl⟩
    · exact op_notIn_seq pins s σ' H _ _ v u Q I rx ry ⟨p, us, rfl, h1, h2, h3, q'⟩
    · exact op_notInD hu pins s σ' H _ _ v u Q I rx ry ⟨d, ds, h1, h2, h3, h4, q'⟩
    · exact op_notInDT hu pins s σ' H _ _ v u Q I rx ry ⟨d, ds, h1, h2, h3, h4, q'⟩
    · exact op_notIn_sign pins s σ' H _ _ v u Q I rx ry ⟨c, z, rfl, rfl, q'⟩

/-! ### places -/
def gix : D → D → Option D
  | .tup xs, .int i => atI xs i
  | .lst xs, .int i => atI xs i
  | .lsr xs, .int i => atI xs i
  | .str z, .int i => if z.length ≤ sizeLine then (atI z.cps.toList i).map fun c => .str ⟨#[c]⟩ else none
  | _, _ => none
theorem RL.at {K : PySem.W.Frag} {F : Addr → Prop} {H : Hp} {xs : List D} {vs : List V} {i : Int} {d : D} (r : RL K cl F H xs vs) (e : atI xs i = some d) : ∃ v, atI vs i = some v ∧ R K cl F H d v := by
  unfold atI at e ⊢
  rw [r.length]
  cases h : ixN xs.length i with
  | none => rw [h] at e; cases e
  | some j => rw [h] at e; exact r.get e
theorem d_ix : IxR X (opR X.K cl gix) := by
  intro value slice pins s σ' H vx vy v u Q I rx ry ⟨F, n, σ, ρ, x, y, z, hx, hy, sl, wf, e, q⟩ hs
  cases x with
  | tup xs =>
    cases y with
    | int i =>
      obtain ⟨a, vs, rfl, ht, rl⟩ := hx
      cases hy
      obtain ⟨w, ew, rw'⟩ := rl.at e
      exact ix_tup value slice pins s σ' H _ _ v u Q I rx ry ⟨a, vs, i, w, rfl, rfl, ht.seq, ew, q.here rw' sl wf⟩ hs
    | _ => cases e
  | lst xs =>
    cases y with
    | int i =>
      obtain ⟨a, vs, rfl, _, ht, rl⟩ := hx
      cases hy
      obtain ⟨w, ew, rw'⟩ := rl.at e
      exact ix_list value slice pins s σ' H _ _ v u Q I rx ry ⟨a, vs, i, w, rfl, rfl, SqL.of ht, ew, q.here rw' sl wf⟩ hs
    | _ => cases e
  | lsr xs =>
    cases y with
    | int i =>
      obtain ⟨a, vs, rfl, ht, rl⟩ := hx
      cases hy
      obtain ⟨w, ew, rw'⟩ := rl.at e
      exact ix_list value slice pins s σ' H _ _ v u Q I rx ry ⟨a, vs, i, w, rfl, rfl, ht.seq, ew, q.here rw' sl wf⟩ hs
    | _ => cases e
  | str t =>
    cases y with
    | int i =>
      cases hx; cases hy
      unfold gix at e
      try dsimp only at e
      split at e
      · rename_i hz
        cases h : atI t.cps.toList i with
        | none => rw [h] at e; cases e
        | some c =>
          rw [h] at e
          cases e
          exact ix_str value slice pins s σ' H _ _ v u Q I rx ry ⟨t, i, c, rfl, rfl, hz, h, q.here rfl sl wf⟩ hs
      · cases e
    | _ => cases e
  | _ => cases e
end

section
variable {C : Cf} {a b : Expr} {da db : M D} {pos : Pos}
theorem e_ix (ha : DE C a da) (hb : DE C b db) (hs : PlainIx b) : DE C (.Subscript a b pos) (bin gix da db) := by
  refine PE.imp (pe_ix (d_ix (cl := C.cl)) ha hb hs) fun σ H Q h => two h fun F H n ρ x y vx vy rx ry sl wf q => ?_
  obtain ⟨z, e, q⟩ := Mt_lift q
  exact ⟨F, n, σ, ρ, x, y, z, rx, ry, sl, wf, e, q⟩

/-! ### slices -/
def cutD (xs : List D) (lo hi : Option Int) : List D := (xs.drop (HT.sIx xs.length 0 lo)).take (HT.sIx xs.length xs.length hi - HT.sIx xs.length 0 lo)
def gsl (lo hi : Option Int) : D → Option D
  | .tup xs => some (.tup (cutD xs lo hi))
  | .lst xs => some (.lst (cutD xs lo hi))
  | .lsr xs => some (.lst (cutD xs lo hi))
  | .str z => if z.length ≤ sizeLine then some (.str (cutS z lo hi)) else none
  | _ => none
def slR (K : PySem.W.Frag) (cl : Nat → Addr) : V → Option Int → Option Int → Hp → VK → Prop := fun vx lo hi H Q => ∃ (F : Addr → Prop) (n : Addr → Nat) (σ : L2.St) (ρ : Env) (x z : D),
  R K cl F H x vx ∧ SL K cl F H ρ σ n ∧ WF F H n ∧ gsl lo hi x = some z ∧ pD K cl F H n σ Q z ρ
theorem RL.cut {K : PySem.W.Frag} {cl : Nat → Addr} {F : Addr → Prop} {H : Hp} {xs : List D} {vs : List V} (r : RL K cl F H xs vs) (lo hi : Option Int) : RL K cl F H (cutD xs lo hi) (cutV vs lo hi) := by
  unfold cutD cutV
  rw [r.length]
  exact (r.drop _).take _
theorem d_sl {X : Cx} {cl : Nat → Addr} : SlR X (slR X.K cl) := by
  intro pins s σ' H vx v vl vu lo hi sl' Q I rx hs pl pu ⟨F, n, σ, ρ, x, z, hx, sl, wf, e, q⟩
  cases x with
  | tup xs =>
    obtain ⟨a, vs, rfl, ht, rl⟩ := hx
    cases e
    refine sl_tupA pins s σ' H _ v vl vu lo hi sl' Q I rx hs pl pu ⟨a, vs, rfl, ht.seq, fun hw => ?_, fun _ p hp => q.tup hp sl wf (rl.cut lo hi)⟩
    have l := rl.length
    have ec : cutD xs lo hi = xs := by
      unfold cutD
      rw [← l, hw.1, hw.2]
      simp [l]
    rw [ec] at q
    exact q.here ⟨a, vs, rfl, ht, rl⟩ sl wf
  | lst xs =>
    obtain ⟨a, vs, rfl, _, ht, rl⟩ := hx
    cases e
    exact sl_list pins s σ' H _ v vl vu lo hi sl' Q I rx hs pl pu ⟨a, vs, rfl, SqL.of ht, fun p hp => q.lst hp sl wf (rl.cut lo hi)⟩
  | lsr xs =>
    obtain ⟨a, vs, rfl, ht, rl⟩ := hx
    cases e
    exact sl_list pins s σ' H _ v vl vu lo hi sl' Q I rx hs pl pu ⟨a, vs, rfl, ht.seq, fun p hp => q.lst hp sl wf (rl.cut lo hi)⟩
  | str t =>
    cases hx
    unfold gsl at e
    try dsimp only at e
    split at e
    · rename_i hz
      cases e
      exact sl_str pins s σ' H _ v vl vu lo hi sl' Q I rx hs pl pu ⟨t, rfl, hz, q.here rfl sl wf⟩
    · cases e
  | _ => cases e
def asI : D → Option Int
  | .int i => some i
  | _ => none
theorem asI_R {K : PySem.W.Frag} {cl : Nat → Addr} {F : Addr → Prop} {H : Hp} {x : D} {v : V} {k : Int} (r : R K cl F H x v) (e : asI x = some k) : v = .int k := by
  cases x with
  | int b => cases e; exact r
  | _ => cases e
/-- a bound of a slice -/
def DP (C : Cf) (e : Option Expr) (d : M (Option Int)) : Prop :=
  PO C.X e (fun σ H Q => ∃ (F : Addr → Prop) (ρ : Env) (n : Addr → Nat), SL C.X.K C.cl F H ρ σ n ∧ WF F H n ∧ Mt C.X.K C.cl C.W F H n σ (d ρ) fun o ρ' => ∀ (F' : Addr → Prop) (H' : Hp) (n' : Addr → Nat), SL C.X.K C.cl F' H' ρ' σ n' → WF F' H' n' → Ext F H n F' H' n' → Q o H')
theorem PO.imp {X : Cx} {e : Option Expr} {t t' : TO} (h : PO X e t) (i : ∀ σ H Q, t' σ H Q → t σ H Q) : PO X e t' := ⟨fun pins s σ H Q I q => h.run pins s σ H Q I (i σ H Q q)⟩
theorem p_none : DP C none (ret none) := PO.imp po_none fun σ H Q ⟨F, ρ, n, sl, wf, q⟩ => q F H n sl wf Ext.refl
def par (d : M D) : M (Option Int) := bnd d fun x => bnd (lift (asI x)) fun i => ret (some i)
theorem p_some (h : DE C a da) : DP C (some a) (par da) := by
  refine PO.imp (po_some h) fun σ H Q ⟨F, ρ, n, sl, wf, q⟩ => ⟨F, ρ, n, sl, wf, q.bnd.imp fun x ρ1 q => ?_⟩
  obtain ⟨i, e, q⟩ := Mt_lift q.bnd
  intro v F1 H1 n1 rx sl1 wf1 ex1
  exact ⟨i, asI_R rx e, q F1 H1 n1 sl1 wf1 ex1⟩
def cut (d : M D) (lo hi : M (Option Int)) : M D := bnd d fun x => bnd lo fun i => bnd hi fun j => lift (gsl i j x)
theorem e_sl {lo hi : Option Expr} {dl dh : M (Option Int)} {p2 : Pos} (ha : DE C a da) (hl : DP C lo dl) (hh : DP C hi dh) : DE C (.Subscript a (.Slice lo hi none p2) pos) (cut da dl dh) := by
  refine PE.imp (pe_slice (d_sl (cl := C.cl)) ha hl hh) fun σ H Q ⟨F, ρ, n, sl, wf, q⟩ => ⟨F, ρ, n, sl, wf, q.bnd.imp fun x ρ1 q => ?_⟩
  intro vx F1 H1 n1 rx sl1 wf1 ex1
  refine ⟨F1, ρ1, n1, sl1, wf1, q.bnd.step wf ex1 fun i ρ2 q => ?_⟩
  intro F2 H2 n2 sl2 wf2 ex2
  have ex := ex1.trans wf ex2
  refine ⟨F2, ρ2, n2, sl2, wf2, q.bnd.step wf ex fun j ρ3 q => ?_⟩
  intro F3 H3 n3 sl3 wf3 ex3
  obtain ⟨z, e, q⟩ := Mt_lift q
  exact ⟨F3, n3, σ, ρ3, x, z, (rx.ext wf1 ex2).ext wf2 ex3, sl3, wf3, e, q.step wf (ex.trans wf ex3)⟩

/-! ### argument lists, displays -/
def acons (d : M D) (ds : M (List D)) : M (List D) := bnd d fun x => bnd ds fun xs => ret (x :: xs)
theorem a_nil : DA C [] (ret []) := PA.imp pa_nil fun σ H Q ⟨F, ρ, n, sl, wf, q⟩ => q [] F H n rfl sl wf Ext.refl
theorem a_cons {es : List Expr} {ds : M (List D)} (ha : DE C a da) (hr : DA C es ds) (hs : starEach (a :: es) C.X.env = (false, eval a C.X.env) :: starEach es C.X.env := by rfl) : DA C (a :: es) (acons da ds) := by
  refine PA.imp (pa_cons ha hr hs) fun σ H Q ⟨F, ρ, n, sl, wf, q⟩ => ⟨F, ρ, n, sl, wf, q.bnd.imp fun x ρ1 q => ?_⟩
  intro v F1 H1 n1 rx sl1 wf1 ex1
  refine ⟨F1, ρ1, n1, sl1, wf1, q.bnd.step wf ex1 fun xs ρ2 q => ?_⟩
  intro vs F2 H2 n2 rs sl2 wf2 ex2
  exact q (v :: vs) F2 H2 n2 ⟨v, vs, rfl, rx.ext wf1 ex2, rs⟩ sl2 wf2 (ex1.trans wf ex2)
def dtup (ds : M (List D)) : M D := bnd ds fun xs => lift (if xs.length ≤ sizeLine then some (.tup xs) else none)
theorem e_tup {es : List Expr} {ds : M (List D)} {k} (h : DA C es ds) : DE C (.Tuple es k pos) (dtup ds) := by
  refine PE.imp (pe_tup h) fun σ H Q ⟨F, ρ, n, sl, wf, q⟩ => ⟨F, ρ, n, sl, wf, q.bnd.imp fun xs ρ1 q => ?_⟩
  obtain ⟨z, e, q⟩ := Mt_lift q
  intro vs F1 H1 n1 rs sl1 wf1 ex1
  split at e
  · rename_i hz
    cases e
    exact ⟨by rw [rs.length]; exact hz, fun p hp => (q.step wf ex1).tup hp sl1 wf1 rs⟩
  · cases e
/-- a new object, owned -/
theorem pO.new {K : PySem.W.Frag} {cl : Nat → Addr} {F : Addr → Prop} {H : Hp} {n : Addr → Nat} {σ : L2.St} {Q : VK} {ρ : Env} {x : RV} {p : Addr} {o : HO} (q : pO K cl F H n σ Q x ρ) (hp : H p = none) (sl : SL K cl F H ρ σ n) (wf : WF F H n)
    (r : RO K cl F (upd H p o) x (.ref p) (one p)) : Q (.ref p) (upd H p o) := by
  obtain ⟨w2, e2⟩ := new_own (o := o) wf hp
  exact q _ _ _ _ n r (sl.ext wf (fun a h => h) fun a h => upd_ne fun e => h (by rw [e]; exact hp)) w2 e2
theorem RL.newo {K : PySem.W.Frag} {cl : Nat → Addr} {F : Addr → Prop} {H : Hp} {n : Addr → Nat} {xs : List D} {vs : List V} {p : Addr} {o : HO} (r : RL K cl F H xs vs) (hp : H p = none) (wf : WF F H n) : RL K cl F (upd H p o) xs vs :=
  RL.mono (fun a h => h) (fun a h => upd_ne fun e => wf.hf a h (by rw [e]; exact hp)) xs r
def dlst (ds : M (List D)) : M RV := bnd ds fun xs => lift (if xs.length ≤ sizeLine then some (.olst xs) else none)
theorem o_lst {es : List Expr} {ds : M (List D)} (h : DA C es ds) : DO C (.List es pos) (dlst ds) := by
  refine PE.imp (pe_lst h) fun σ H Q ⟨F, ρ, n, sl, wf, q⟩ => ⟨F, ρ, n, sl, wf, q.bnd.imp fun xs ρ1 q => ?_⟩
  obtain ⟨z, e, q⟩ := Mt_lift q
  intro vs F1 H1 n1 rs sl1 wf1 ex1
  split at e
  · rename_i hz
    cases e
    exact ⟨by rw [rs.length]; exact hz, fun p hp => (q.step wf ex1).new hp sl1 wf1 ⟨p, vs, rfl, upd_same, rs.newo hp wf1, fun _ => rfl⟩⟩
  · cases e

/-! ### built-ins -/
theorem e_callB {g : List D → Option D} {x : Str} {id : String} {p : Pos} {es : List Expr} {ds : M (List D)} (hc : CallR C.X (.builtin id) (opRL C.X.K C.cl g)) (hg : Gl C.X x) (hm : C.X.mg x = none) (hv : bootBuiltins x = some (.builtin id)) (ha : DA C (a :: es) ds)
    (hn : x ≠ "__name__" := by decide) (hdb : (x == ("__debug__" : Str)) = false := by decide)
    (he : starEach (a :: es) C.X.env = (false, eval a C.X.env) :: starEach es C.X.env := by rfl) (hpl : (backTo pos (starEach es C.X.env)).any (·.1) = false := by rfl) : DE C (.Call (.Name x p) (a :: es) [] pos) (cal g ds) := by
  refine PE.imp (pe_callB hc hg hm hv ha hn hdb he hpl) fun σ H Q ⟨F, ρ, n, sl, wf, q⟩ => ⟨F, ρ, n, sl, wf, q.bnd.imp fun xs ρ1 q => ?_⟩
  obtain ⟨z, e, q⟩ := Mt_lift q
  intro vs F1 H1 n1 rs sl1 wf1 ex1
  exact ⟨F1, n1, σ, ρ1, xs, z, rs, sl1, wf1, e, q.step wf ex1⟩
theorem e_callTy {g : List D → Option D} {x : Str} {id : String} {p : Pos} {es : List Expr} {ds : M (List D)} (hc : CallR C.X (.type id) (opRL C.X.K C.cl g)) (hg : Gl C.X x) (hm : C.X.mg x = none) (hv : bootBuiltins x = some (.type id)) (ha : DA C (a :: es) ds)
    (hn : x ≠ "__name__" := by decide) (hdb : (x == ("__debug__" : Str)) = false := by decide)
    (he : starEach (a :: es) C.X.env = (false, eval a C.X.env) :: starEach es C.X.env := by rfl) (hpl : (backTo pos (starEach es C.X.env)).any (·.1) = false := by rfl) : DE C (.Call (.Name x p) (a :: es) [] pos) (cal g ds) := by
  refine PE.imp (pe_callTy hc hg hm hv ha hn hdb he hpl) fun σ H Q ⟨F, ρ, n, sl, wf, q⟩ => ⟨F, ρ, n, sl, wf, q.bnd.imp fun xs ρ1 q => ?_⟩
  obtain ⟨z, e, q⟩ := Mt_lift q
  intro vs F1 H1 n1 rs sl1 wf1 ex1
  exact ⟨F1, n1, σ, ρ1, xs, z, rs, sl1, wf1, e, q.step wf ex1⟩
end

section
variable {X : Cx} {cl : Nat → Addr}
theorem RL.one {K : PySem.W.Frag} {F : Addr → Prop} {H : Hp} {x : D} {vs : List V} (r : RL K cl F H [x] vs) : ∃ v, vs = [v] ∧ R K cl F H x v := by
  obtain ⟨v, us, e, rx, e2⟩ := r
  rw [show us = [] from e2] at e
  exact ⟨v, e, rx⟩
theorem RL.two {K : PySem.W.Frag} {F : Addr → Prop} {H : Hp} {x y : D} {vs : List V} (r : RL K cl F H [x, y] vs) : ∃ v u, vs = [v, u] ∧ R K cl F H x v ∧ R K cl F H y u := by
  obtain ⟨v, us, e, rx, r2⟩ := r
  obtain ⟨u, rfl, ry⟩ := RL.one r2
  exact ⟨v, u, e, rx, ry⟩
/-- of one argument -/
def f1 (g : D → Option D) : List D → Option D
  | [x] => g x
  | _ => none
def f2 (g : D → D → Option D) : List D → Option D
  | [x, y] => g x y
  | _ => none
theorem f1_of {g : D → Option D} {xs : List D} {z : D} (h : f1 g xs = some z) : ∃ x, xs = [x] ∧ g x = some z := by
  match xs, h with
  | [x], h => exact ⟨x, rfl, h⟩
theorem f2_of {g : D → D → Option D} {xs : List D} {z : D} (h : f2 g xs = some z) : ∃ x y, xs = [x, y] ∧ g x y = some z := by
  match xs, h with
  | [x, y], h => exact ⟨x, y, rfl, h⟩
def glen : D → Option D
  | .tup xs => some (.int xs.length)
  | .lst xs => some (.int xs.length)
  | .lsr xs => some (.int xs.length)
  | .str z => if z.length ≤ sizeLine then some (.int z.length) else none
  | _ => none
theorem d_len : CallR X (.builtin "len") (opRL X.K cl (f1 glen)) := by
  intro pins s σ' H vs us Q I r ⟨F, n, σ, ρ, xs, z, rs, sl, wf, e, q⟩
  obtain ⟨x, rfl, g1⟩ := f1_of e
  clear e
  have e := g1
  clear g1
  obtain ⟨v, rfl, rx⟩ := rs.one
  cases x with
  | tup xs =>
    obtain ⟨a, ws, rfl, ht, rl⟩ := rx
    cases e
    exact call_len_seq pins s σ' H _ us Q I r ⟨a, ws, rfl, .inr ht.seq, q.here (by rw [rl.length]; exact rfl) sl wf⟩
  | lst xs =>
    obtain ⟨a, ws, rfl, _, ht, rl⟩ := rx
    cases e
    exact call_len_seq pins s σ' H _ us Q I r ⟨a, ws, rfl, .inl (SqL.of ht), q.here (by rw [rl.length]; exact rfl) sl wf⟩
  | lsr xs =>
    obtain ⟨a, ws, rfl, ht, rl⟩ := rx
    cases e
    exact call_len_seq pins s σ' H _ us Q I r ⟨a, ws, rfl, .inl ht.seq, q.here (by rw [rl.length]; exact rfl) sl wf⟩
  | str t =>
    cases rx
    unfold glen at e
    try dsimp only at e
    split at e
    · rename_i hz
      cases e
      exact call_len_str pins s σ' H _ us Q I r ⟨t, rfl, hz, q.here rfl sl wf⟩
    · cases e
  | _ => cases e
def gabs : D → Option D
  | .int i => some (.int (if i < 0 then -i else i))
  | _ => none
theorem d_abs : CallR X (.builtin "abs") (opRL X.K cl (f1 gabs)) := by
  intro pins s σ' H vs us Q I r ⟨F, n, σ, ρ, xs, z, rs, sl, wf, e, q⟩
  obtain ⟨x, rfl, g1⟩ := f1_of e
  clear e
  have e := g1
  clear g1
  obtain ⟨v, rfl, rx⟩ := rs.one
  cases x with
  | int i => cases rx; cases e; exact call_abs pins s σ' H _ us Q I r ⟨i, rfl, q.here rfl sl wf⟩
  | _ => cases e
def gint : D → Option D
  | .int i => some (.int i)
  | .bl b => some (.int (if b then 1 else 0))
  | .str a => if a.length ≤ 640 then (PySem.intText? a).map .int else none
  | _ => none
theorem d_intf : CallR X (.type "int") (opRL X.K cl (f1 gint)) := by
  intro pins s σ' H vs us Q I r ⟨F, n, σ, ρ, xs, z, rs, sl, wf, e, q⟩
  obtain ⟨x, rfl, g1⟩ := f1_of e
  clear e
  have e := g1
  clear g1
  obtain ⟨v, rfl, rx⟩ := rs.one
  cases x with
  | int i => cases rx; cases e; exact call_int1 pins s σ' H _ us Q I r (.inl ⟨i, rfl, q.here rfl sl wf⟩)
  | bl b => cases rx; cases e; exact call_int1 pins s σ' H _ us Q I r (.inr ⟨b, rfl, q.here rfl sl wf⟩)
  | str a =>
    cases rx
    unfold gint at e
    try dsimp only at e
    split at e
    · rename_i hz
      cases h : PySem.intText? a with
      | none => rw [h] at e; cases e
      | some i => rw [h] at e; cases e; exact call_int_str pins s σ' H _ us Q I r ⟨a, i, rfl, h, hz, q.here rfl sl wf⟩
    · cases e
  | _ => cases e
def gstr : D → Option D
  | .int i => if i.natAbs.log2 < 1920 then some (.str (toString i)) else none
  | _ => none
theorem d_str : CallR X (.type "str") (opRL X.K cl (f1 gstr)) := by
  intro pins s σ' H vs us Q I r ⟨F, n, σ, ρ, xs, z, rs, sl, wf, e, q⟩
  obtain ⟨x, rfl, g1⟩ := f1_of e
  clear e
  have e := g1
  clear g1
  obtain ⟨v, rfl, rx⟩ := rs.one
  cases x with
  | int i =>
    cases rx
    unfold gstr at e
    try dsimp only at e
    split at e
    · rename_i hz
      cases e
      exact call_str_int pins s σ' H _ us Q I r ⟨i, rfl, hz, q.here rfl sl wf⟩
    · cases e
  | _ => cases e
def gtup : D → Option D
  | .tup xs => some (.tup xs)
  | .lst xs => some (.tup xs)
  | .lsr xs => some (.tup xs)
  | _ => none
theorem d_tuple : CallR X (.type "tuple") (opRL X.K cl (f1 gtup)) := by
  intro pins s σ' H vs us Q I r ⟨F, n, σ, ρ, xs, z, rs, sl, wf, e, q⟩
  obtain ⟨x, rfl, g1⟩ := f1_of e
  clear e
  have e := g1
  clear g1
  obtain ⟨v, rfl, rx⟩ := rs.one
  cases x with
  | tup xs =>
    obtain ⟨a, ws, rfl, ht, rl⟩ := rx
    cases e
    exact call_tuple_of pins s σ' H _ us Q I r ⟨a, ws, rfl, .inr ⟨ht.seq, q.here ⟨a, ws, rfl, ht, rl⟩ sl wf⟩⟩
  | lst xs =>
    obtain ⟨a, ws, rfl, _, ht, rl⟩ := rx
    cases e
    exact call_tuple_of pins s σ' H _ us Q I r ⟨a, ws, rfl, .inl ⟨SqL.of ht, fun p hp => q.tup hp sl wf rl⟩⟩
  | lsr xs =>
    obtain ⟨a, ws, rfl, ht, rl⟩ := rx
    cases e
    exact call_tuple_of pins s σ' H _ us Q I r ⟨a, ws, rfl, .inl ⟨ht.seq, fun p hp => q.tup hp sl wf rl⟩⟩
  | _ => cases e
def glist : D → Option D
  | .tup xs => some (.lst xs)
  | .lst xs => some (.lst xs)
  | .lsr xs => some (.lst xs)
  | _ => none
theorem d_list : CallR X (.type "list") (opRL X.K cl (f1 glist)) := by
  intro pins s σ' H vs us Q I r ⟨F, n, σ, ρ, xs, z, rs, sl, wf, e, q⟩
  obtain ⟨x, rfl, g1⟩ := f1_of e
  clear e
  have e := g1
  clear g1
  obtain ⟨v, rfl, rx⟩ := rs.one
  cases x with
  | tup xs =>
    obtain ⟨a, ws, rfl, ht, rl⟩ := rx
    cases e
    exact call_list_of pins s σ' H _ us Q I r ⟨a, ws, rfl, .inr ht.seq, fun p hp => q.lst hp sl wf rl⟩
  | lst xs =>
    obtain ⟨a, ws, rfl, _, ht, rl⟩ := rx
    cases e
    exact call_list_of pins s σ' H _ us Q I r ⟨a, ws, rfl, .inl (SqL.of ht), fun p hp => q.lst hp sl wf rl⟩
  | lsr xs =>
    obtain ⟨a, ws, rfl, ht, rl⟩ := rx
    cases e
    exact call_list_of pins s σ' H _ us Q I r ⟨a, ws, rfl, .inl ht.seq, fun p hp => q.lst hp sl wf rl⟩
  | _ => cases e
def gmax : D → D → Option D
  | .int i, .int j => some (.int (if j > i then j else i))
  | _, _ => none
def gmin : D → D → Option D
  | .int i, .int j => some (.int (if j < i then j else i))
  | _, _ => none
theorem d_max (hc : X.calm = true) : CallR X (.builtin "max") (opRL X.K cl (f2 gmax)) := by
  intro pins s σ' H vs us Q I r ⟨F, n, σ, ρ, xs, z, rs, sl, wf, e, q⟩
  obtain ⟨x, y, rfl, g1⟩ := f2_of e
  clear e
  have e := g1
  clear g1
  obtain ⟨v, u, rfl, rx, ry⟩ := rs.two
  cases x with
  | int i =>
    cases y with
    | int j => cases rx; cases ry; cases e; exact call_max2 hc pins s σ' H _ us Q I r ⟨i, j, rfl, q.here rfl sl wf⟩
    | _ => cases e
  | _ => cases e
theorem d_min (hc : X.calm = true) : CallR X (.builtin "min") (opRL X.K cl (f2 gmin)) := by
  intro pins s σ' H vs us Q I r ⟨F, n, σ, ρ, xs, z, rs, sl, wf, e, q⟩
  obtain ⟨x, y, rfl, g1⟩ := f2_of e
  clear e
  have e := g1
  clear g1
  obtain ⟨v, u, rfl, rx, ry⟩ := rs.two
  cases x with
  | int i =>
    cases y with
    | int j => cases rx; cases ry; cases e; exact call_min2 hc pins s σ' H _ us Q I r ⟨i, j, rfl, q.here rfl sl wf⟩
    | _ => cases e
  | _ => cases e
/-- ints of data -/
def dints : List D → Option (List Int)
  | [] => some []
  | .int i :: r => (dints r).map (i :: ·)
  | _ :: _ => none
theorem ints_RL {K : PySem.W.Frag} {F : Addr → Prop} {H : Hp} : ∀ {xs : List D} {vs : List V} {ns : List Int}, RL K cl F H xs vs → dints xs = some ns → vs = ns.map V.int
  | [], _, _, r, e => by rw [show _ = [] from r]; cases e; rfl
  | x :: xs, _, ns, ⟨v, us, ev, r, rs⟩, e => by
    cases x with
    | int i =>
      have e : (dints xs).map (i :: ·) = some ns := e
      cases h : dints xs with
      | none => rw [h] at e; cases e
      | some ms =>
        rw [h] at e
        cases e
        cases r
        rw [ev, ints_RL rs h]
        rfl
    | _ => cases e
def gsum : D → Option D
  | .lst xs => (dints xs).map fun ns => .int ns.sum
  | _ => none
theorem d_sum (hc : X.calm = true) : CallR X (.builtin "sum") (opRL X.K cl (f1 gsum)) := by
  intro pins s σ' H vs us Q I r ⟨F, n, σ, ρ, xs, z, rs, sl, wf, e, q⟩
  obtain ⟨x, rfl, g1⟩ := f1_of e
  clear e
  have e := g1
  clear g1
  obtain ⟨v, rfl, rx⟩ := rs.one
  cases x with
  | lst xs =>
    obtain ⟨a, ws, rfl, _, ht, rl⟩ := rx
    have e : (dints xs).map (fun ns => D.int ns.sum) = some z := e
    cases h : dints xs with
    | none => rw [h] at e; cases e
    | some ns =>
      rw [h] at e
      cases e
      have ew := ints_RL rl h
      subst ew
      exact L2.cr_sum hc pins s σ' H _ us Q I r ⟨a, ns, rfl, SqL.of ht, q.here rfl sl wf⟩
  | _ => cases e
end
end KR

set_option Elab.async false
set_option linter.all false
set_option maxRecDepth 100000
set_option maxHeartbeats 2000000
/-! What is walked: lists and tuples alike, by themselves, counted, in pairs. -/
namespace KR
open PySem L2 PyProof.Rows

/-- k tells a tuple from a list -/
def SqK (K : PySem.W.Frag) (k : Bool) (H : Hp) (a : Addr) (us : List V) : Prop := if k = true then SqT K H a us else SqL K H a us
def IsSeq (k : Bool) (h : Heap) (a : Addr) (its : Array Value) : Prop := if k = true then h.IsTuple a its else h.IsList a its
def IsIt (k : Bool) (h : Heap) (it a : Addr) (i : Nat) : Prop := if k = true then h.IsTupleIter it a i else h.IsListIter it a i
def itObj (k : Bool) (a : Addr) : Obj := if k = true then { cls := .type "tuple_iterator", data := .fields #[.ref a, .int 0 0] } else { cls := .type "list_iterator", data := .fields #[.ref a, .int 0 0] }
section
variable {X : Cx} {pins : List (Addr × Obj)} {σ : L2.St} {H : Hp} {s : Shared} {k : Bool} {a it : Addr} {us ws : List V} {i : Nat}
theorem seqK (I : L2.Inv X pins σ H s) (h : SqK X.K k H a us) : ∃ its : List Value, Vals us its ∧ IsSeq k s.heap a its.toArray ∧ us.length ≤ sizeLine := by
  cases k with
  | false =>
    obtain ⟨its, r, p, z⟩ := I.list h
    exact ⟨its, r, p.isList, z⟩
  | true =>
    obtain ⟨its, r, p, z⟩ := I.tuple h
    exact ⟨its, r, p, z⟩
theorem seqK_inj (I : L2.Inv X pins σ H s) (h : SqK X.K k H a us) (h' : SqK X.K k H a ws) : us = ws := by
  cases k with
  | false => exact I.list_inj h h'
  | true => exact I.tuple_inj h h'
theorem IsSeq.cls {h : Heap} {its : Array Value} (x : IsSeq k h a its) : ∃ o, h.get? a = some o ∧ (o.cls = .type "tuple" ∨ o.cls = .type "list") := by
  cases k with
  | false => obtain ⟨o, e, c, _⟩ := (show h.IsList a its from x); exact ⟨o, e, .inr c⟩
  | true => obtain ⟨o, e, c, _⟩ := (show h.IsTuple a its from x); exact ⟨o, e, .inl c⟩
theorem IsIt.cls {h : Heap} (x : IsIt k h it a i) : ∃ o, h.get? it = some o ∧ (o.cls = .type "tuple_iterator" ∨ o.cls = .type "list_iterator") ∧ ∀ v, o.data ≠ .cell v := by
  cases k with
  | false => obtain ⟨o, e, c, d⟩ := (show h.IsListIter it a i from x); exact ⟨o, e, .inr c, fun v z => by rw [d] at z; cases z⟩
  | true => obtain ⟨o, e, c, d⟩ := (show h.IsTupleIter it a i from x); exact ⟨o, e, .inl c, fun v z => by rw [d] at z; cases z⟩
theorem IsIt.keep {h h' : Heap} (x : IsIt k h it a i) (kk : ∀ o, h.get? it = some o → h'.get? it = some o) : IsIt k h' it a i := by
  cases k with
  | false => obtain ⟨o, e, c⟩ := (show h.IsListIter it a i from x); exact ⟨o, kk o e, c⟩
  | true => obtain ⟨o, e, c⟩ := (show h.IsTupleIter it a i from x); exact ⟨o, kk o e, c⟩
theorem IsSeq.keep {h h' : Heap} {its : Array Value} (x : IsSeq k h a its) (kk : ∀ o, h.get? a = some o → h'.get? a = some o) : IsSeq k h' a its := by
  cases k with
  | false => obtain ⟨o, e, c⟩ := (show h.IsList a its from x); exact ⟨o, kk o e, c⟩
  | true => obtain ⟨o, e, c⟩ := (show h.IsTuple a its from x); exact ⟨o, kk o e, c⟩
theorem it_ne {h : Heap} {its : Array Value} (x : IsSeq k h a its) (y : IsIt k h it a i) : a ≠ it := by
  obtain ⟨o, e, c⟩ := x.cls
  obtain ⟨o', e', c', _⟩ := y.cls
  rintro rfl
  rw [e] at e'
  cases e'
  rcases c with c | c <;> rcases c' with c' | c' <;> rw [c] at c' <;> exact absurd c' (by decide)
theorem drawsK {prog : Program} {w : World} {A : Around} (hh : A.handled = none) (it a : Addr) (hne : a ≠ it) (its : Array Value) :
    Draws prog w A it [it, a] its.size (fun i v => its[i]? = some v) (fun i h => IsIt k h it a i ∧ IsSeq k h a its) := by
  cases k with
  | false => exact Draws.list hh it a hne its
  | true => exact Draws.tuple hh it a hne its
theorem beginsK (a : Addr) (its : Array Value) : Begins (.ref a) (itObj k a) fun h => IsSeq k h a its := by
  cases k with
  | false => exact begins_list a its
  | true => exact begins_tuple a its
theorem itObj_is {h : Heap} (e : h.get? it = some (itObj k a)) : IsIt k h it a 0 := by
  cases k with
  | false => exact ⟨_, e, rfl, rfl⟩
  | true => exact ⟨_, e, rfl, rfl⟩
/-- a new tuple comes with the turn -/
theorem turned_tup {ch : List Addr} {T : Addr} {xs : List V} {vs : List Value} {h' : Heap} {t' : Nat} (I : L2.Inv X pins σ H s) (kk : ∀ b o, b ∉ ch → s.heap.get? b = some o → h'.get? b = some o) (hf : ∀ b ∈ ch, FpOk X pins H b)
    (hT : s.heap.objs.size ≤ T) (r : Vals xs vs) (hz : xs.length ≤ sizeLine) (e : h'.IsTuple T vs.toArray) : L2.Inv X pins σ (upd H T (.tup xs)) { s with heap := h', toks := t' } :=
  I.turnedNew (t' := t') kk hf hT ⟨hz, vs, r, e⟩
end

/-! ### enumerate -/
theorem meets_enum1 {v : Value} {o : Obj} {Hb : Heap → Prop} (B : Begins v o Hb) :
    Meets (Builtin.«enumerate.__new__» ⟨[.type "enumerate", v], []⟩) (fun _ R s => Hb s.heap ∧
      R (.ok (.ret (.ref (s.heap.push o).objs.size))) { s with heap := (s.heap.push o).push { cls := .type "enumerate", data := .fields #[.none, .bool false, .ref s.heap.objs.size, rawInt 0, .none, .none] } }) :=
  .of_wp fun prog w A R s hb => by
    obtain ⟨hp, g, d, tk, os⟩ := s
    obtain ⟨h1, hr⟩ := hb
    have hsubE := sub_enumerate
    have begin1 : ∀ {A' : Around} {E : Value → Shared → Prop} {Q : Value → Shared → Prop}, Q (.ref hp.objs.size) ⟨hp.push o, g, d, tk, os⟩ → wpAny (model prog w) A' (pyIter v) Q E ⟨hp, g, d, tk, os⟩ :=
      fun q1 => B.iter prog w _ _ ⟨hp, g, d, tk, os⟩ _ h1 q1
    wp_walk using begin1
    refine wpAny_stack_any fun st1 => wpAny_pure ?_
    split
    · rename_i c1 _ _ _ _ _
      cases (c1 == Value.type "enumerate")
      · wp_walk using begin1
        exact ⟨_, rfl, hr⟩
      · wp_walk using begin1
        exact ⟨_, rfl, hr⟩
    · wp_walk using begin1
      exact ⟨_, rfl, hr⟩
section
variable {prog : Program} {w : World} {A : Around} {E : Value → Shared → Prop} {s : Shared}
theorem enum1_begins {v : Value} {o : Obj} {Hb : Heap → Prop} {Q : Value → Shared → Prop} (B : Begins v o Hb) (h1 : Hb s.heap)
    (hq : ∀ h', IsEnum h' (s.heap.objs.size + 1) s.heap.objs.size 0 .none → h'.get? s.heap.objs.size = some o → (∀ b u, s.heap.get? b = some u → h'.get? b = some u) → Q (.ref (s.heap.objs.size + 1)) { s with heap := h' }) :
    wpAny (model prog w) A (call (.type "enumerate") [v]) Q E s := by
  refine callType_new F.called_enumerate (by decide) (F.typeCall_enumerate_1 _) (F.newCall_enumerate_1 _) (fun ob => F.args_object_init_2 ob _) F.entry_enumerate_new (meets_enum1 B) ⟨h1, ?_⟩
  have sz : (s.heap.push o).objs.size = s.heap.objs.size + 1 := Heap.size_push ..
  show _ ∧ _
  rw [sz]
  have eE : IsEnum ((s.heap.push o).push { cls := .type "enumerate", data := .fields #[.none, .bool false, .ref s.heap.objs.size, rawInt 0, .none, .none] }) (s.heap.objs.size + 1) s.heap.objs.size 0 .none := by
    have z := Heap.get?_push_size (s.heap.push o) (o := { cls := .type "enumerate", data := .fields #[.none, .bool false, .ref s.heap.objs.size, rawInt 0, .none, .none] }) rfl
    rw [sz] at z
    exact z
  exact ⟨⟨_, eE, rfl⟩, hq _ eE (Heap.get?_push_of_some _ (Heap.get?_push_size _ B.free)) fun b u x => Heap.get?_push_of_some _ (Heap.get?_push_of_some _ x)⟩
end
/-- the items at a in pairs with their places -/
def IteK (K : PySem.W.Frag) (k : Bool) (a : Addr) : It :=
  ⟨fun i H => ∃ (us : List V) (x : V), SqK K k H a us ∧ us[i]? = some x,
    fun i H v H' => ∃ (T : Addr) (x : V), v = .ref T ∧ H T = none ∧ H' = upd H T (.tup [.int (i : Nat), x]) ∧ ∀ us, SqK K k H a us → us[i]? = some x,
    fun i H => ∃ us : List V, SqK K k H a us ∧ us.length ≤ i⟩
theorem turn_enumK {P : Program} {w : World} {K : PySem.W.Frag} {elts : List Expr} {kk : Nat} {tpos : Pos} (k : Bool) (a e it : Addr) :
    Turn P w K (.Tuple elts kk tpos) (IteK K k a) [e, it] e (fun i h => (∃ old, IsEnum h e it (0 + (i : Int)) old) ∧ IsIt k h it a i ∧ e ≠ it) where
  mem := by simp
  obj := fun i h st b hb => by
    obtain ⟨⟨old, he⟩, hi, _⟩ := st
    rcases List.mem_cons.mp hb with z | z
    · subst z
      exact ⟨_, he, fun v q => nomatch q⟩
    · have z2 : b = it := by simpa using z
      obtain ⟨o, ho, _, hd⟩ := hi.cls
      exact ⟨o, by rw [z2]; exact ho, hd⟩
  keep := fun i h h' st kp => let ⟨⟨old, he⟩, hi, hne⟩ := st; ⟨⟨old, kp e (by simp) _ he⟩, hi.keep fun o q => kp it (by simp) o q, hne⟩
  item := by
    intro X hP hw hK hc i pins s σ H E I hf st hg
    subst hP hw hK
    obtain ⟨⟨old, he⟩, hit, hne⟩ := st
    obtain ⟨us, x, hq, hx⟩ := hg
    obtain ⟨its, rv, p, hz⟩ := seqK I hq
    obtain ⟨u, hu, ru⟩ := rv.get hx
    have ha := it_ne p hit
    have hea : e ≠ a := fun z => by
      obtain ⟨o, eo, c⟩ := p.cls
      rw [← z] at eo
      have e1 : some o = some _ := eo.symm.trans he
      cases e1
      rcases c with c | c
      · exact absurd (show Value.type "enumerate" = Value.type "tuple" from c) (by decide)
      · exact absurd (show Value.type "enumerate" = Value.type "list" from c) (by decide)
    have D := drawsK (prog := X.prog) (w := X.w) (A := X.A.in1) (k := k) (I.ok.hd hc) it a ha its.toArray
    have G := GoesN.enumFrom (elts := elts) (x1 := kk) (pos := tpos) 0 D e hne (by simp [hne, hea]) (by simp)
    have hlt : i < its.toArray.size := by
      have := (List.getElem?_eq_some_iff.mp hu).1
      simpa using this
    refine G.goes i s (fun v s2 => ∃ y H', L2.Inv X pins σ H' s2 ∧ RelV y v ∧ (IteK X.K k a).yld i H y H' ∧ ((∃ old, IsEnum s2.heap e it (0 + ((i + 1 : Nat) : Int)) old) ∧ IsIt k s2.heap it a (i + 1) ∧ e ≠ it) ∧ ∀ b ∈ [e, it], H' b = none) E hlt ⟨⟨old, he⟩, hit, p⟩ fun v h' tk hY st' hk htk => ?_
    obtain ⟨T, t, y, rfl, hT, hy, hTt⟩ := hY
    have ey : y = u := by
      have q : its[i]? = some y := by simpa using hy
      rw [hu] at q
      exact (Option.some.inj q).symm
    subst ey
    have J := turned_tup (t' := tk) (xs := [.int (0 + (i : Int)), x]) (vs := [.int (0 + (i : Int)) t, y]) I hk hf hT (.cons ⟨_, rfl⟩ (.cons ru .nil)) (by show 2 ≤ sizeLine; decide) hTt
    have e0 : (0 + (i : Int)) = ((i : Nat) : Int) := by omega
    rw [e0] at J
    refine ⟨.ref T, _, J, rfl, ⟨T, x, rfl, I.hok.fresh hT, rfl, fun ws hws => by rw [seqK_inj I hws hq]; exact hx⟩, ⟨st'.1, st'.2.1, hne⟩, fun b hb => ?_⟩
    have hlt2 : b < s.heap.objs.size := by
      rcases List.mem_cons.mp hb with z | z
      · rw [z]; exact Heap.lt_size he
      · have z2 : b = it := by simpa using z
        obtain ⟨o, ho, _⟩ := hit.cls
        rw [z2]; exact Heap.lt_size ho
    rw [upd_ne (Nat.ne_of_lt (Nat.lt_of_lt_of_le hlt2 hT))]
    exact (hf b hb).1
  done := by
    intro X hP hw hK hc i pins s σ H E I hf st hg
    subst hP hw hK
    obtain ⟨⟨old, he⟩, hit, hne⟩ := st
    obtain ⟨us, hq, hx⟩ := hg
    obtain ⟨its, rv, p, hz⟩ := seqK I hq
    have ha := it_ne p hit
    have hea : e ≠ a := fun z => by
      obtain ⟨o, eo, c⟩ := p.cls
      rw [← z] at eo
      have e1 : some o = some _ := eo.symm.trans he
      cases e1
      rcases c with c | c
      · exact absurd (show Value.type "enumerate" = Value.type "tuple" from c) (by decide)
      · exact absurd (show Value.type "enumerate" = Value.type "list" from c) (by decide)
    have D := drawsK (prog := X.prog) (w := X.w) (A := X.A.in1) (k := k) (I.ok.hd hc) it a ha its.toArray
    have hl := rv.length
    -- the iterator stands behind its last item
    have hT : s.TypeIs (.ref e) "enumerate" := ⟨_, he, rfl⟩
    unfold pyNext
    refine wpAny_bind (wpAny_attempt (wpAny_callSpecial?_slot (name := Str.ofString "__next__") hT F.slot_enumerate_next
      (wpAny_call_entry F.slot_enumerate_next hT F.entry_enumerate_next ?_ (F.args_enumerate_next_1 _))))
    show wpAny _ _ (field (.ref e) 2 >>= _) _ _ _
    refine wpAny_bind (wpAny_field he rfl (x := .ref it) rfl ?_)
    have fin : ∀ (h' : Heap) (ex : Addr), Heap.ExtBut it s.heap h' → (∃ o, h'.get? ex = some o ∧ o.cls = .type "StopIteration") → wpAny (model X.prog X.w) X.A (do
        let b ← isInstance (.ref ex) (.type "StopIteration")
        if b then pure (none : Option Value) else throw (Value.ref ex)) (fun r s1 => r = none ∧ L2.Inv X pins σ H s1) E { s with heap := h' } := fun h' ex hx' ⟨o, ho, hcl⟩ => by
      refine wpAny_bind (wpAny_isInstance (T := "StopIteration") (b := true) ⟨o, ho, hcl⟩ isSubtype_stop ?_)
      obtain ⟨f0, f1, f2, f3, f4, f5⟩ := hf it (by simp)
      exact wpAny_pure ⟨rfl, I.turned (t' := s.toks) (fun b o hb q => hx' b o hb q) f0 f1 f3 f4 f5⟩
    have last : ∀ (Q : Value → Shared → Prop) (E' : Value → Shared → Prop), (∀ h' ex, Heap.ExtBut it s.heap h' → (∃ o, h'.get? ex = some o ∧ o.cls = .type "StopIteration") → E' (.ref ex) { s with heap := h' }) → wpAny (model X.prog X.w) X.A.in1 (Builtin.SmallTypes.nextOf (.ref it)) Q E' s := fun Q E' hE => by
      have hn : its.toArray[i]? = none := by
        have : its.length ≤ i := by omega
        simp [this]
      cases k with
      | false => exact wpAny_nextOf_list_end (I.ok.hd hc) hit p hn hE
      | true => exact wpAny_nextOf_tuple_end (I.ok.hd hc) hit p hn hE
    exact wpAny_bind (last _ _ fun h' ex h1 h2 => fin h' ex h1 h2)
  self := fun A i s Q E st h => let ⟨⟨_, he⟩, _⟩ := st; wpAny_pyIter_enum he h

/-! ### zip -/
/-- the items at a and b in pairs -/
def ItzK (K : PySem.W.Frag) (k k2 : Bool) (a b : Addr) : It :=
  ⟨fun i H => ∃ (us ws : List V), SqK K k H a us ∧ SqK K k2 H b ws ∧ i < min us.length ws.length,
    fun i H v H' => ∃ (T : Addr) (x y : V), v = .ref T ∧ H T = none ∧ H' = upd H T (.tup [x, y]) ∧ (∀ us, SqK K k H a us → us[i]? = some x) ∧ ∀ ws, SqK K k2 H b ws → ws[i]? = some y,
    fun i H => ∃ us ws : List V, SqK K k H a us ∧ SqK K k2 H b ws ∧ i = min us.length ws.length⟩
theorem zip_cells {P : Program} {w : World} {A : Around} {elts : List Expr} {kk : Nat} {tpos : Pos} (hh : A.handled = none) {k k2 : Bool} {a b z TI TO i1 i2 : Addr} {its its2 : Array Value} (S : ZipSep2 z TI TO i1 i2 [i1, a] [i2, b]) (h1 : a ≠ i1) (h2 : b ≠ i2) :
    GoesN P w A (.Tuple elts kk tpos) z (z :: TI :: TO :: ([i1, a] ++ [i2, b])) [z, TO, i1, i2] (min its.size its2.size) (fun i h₀ v h => ∃ T x y, v = .ref T ∧ h₀.objs.size ≤ T ∧ its[i]? = some x ∧ its2[i]? = some y ∧ h.IsTuple T #[x, y])
      (fun i h => IsZip h z TI TO .none ∧ IsTupOf2 h TI (.ref i1) (.ref i2) ∧ (∃ a1 a2, IsTupOf2 h TO a1 a2) ∧ (IsIt k h i1 a i ∧ IsSeq k h a its) ∧ IsIt k2 h i2 b i ∧ IsSeq k2 h b its2) :=
  GoesN.zip2 S (drawsK (A := A.in1) hh i1 a h1 its) (drawsK (A := A.in1) hh i2 b h2 its2)
theorem turn_zipK {P : Program} {w : World} {K : PySem.W.Frag} {elts : List Expr} {kk : Nat} {tpos : Pos} (k k2 : Bool) {a b z TI TO i1 i2 : Addr} (S : ZipSep2 z TI TO i1 i2 [i1, a] [i2, b]) :
    Turn P w K (.Tuple elts kk tpos) (ItzK K k k2 a b) [z, TI, TO, i1, i2] z (fun i h => IsZip h z TI TO .none ∧ IsTupOf2 h TI (.ref i1) (.ref i2) ∧ (∃ x y, IsTupOf2 h TO x y) ∧ IsIt k h i1 a i ∧ IsIt k2 h i2 b i) where
  mem := by simp
  obj := fun i h st c hc => by
    obtain ⟨hz, hTI, ⟨x, y, hTO⟩, h1, h2⟩ := st
    have e' : c = z ∨ c = TI ∨ c = TO ∨ c = i1 ∨ c = i2 := by simpa using hc
    rcases e' with q | q | q | q | q
    · subst q
      exact ⟨_, hz, fun v q => nomatch q⟩
    · subst q
      exact ⟨_, hTI, fun v q => nomatch q⟩
    · subst q
      exact ⟨_, hTO, fun v q => nomatch q⟩
    · subst q
      obtain ⟨o, ho, _, hd⟩ := h1.cls
      exact ⟨o, ho, hd⟩
    · subst q
      obtain ⟨o, ho, _, hd⟩ := h2.cls
      exact ⟨o, ho, hd⟩
  keep := fun i h h' st kp => by
    obtain ⟨hz, hTI, ⟨x, y, hTO⟩, h1, h2⟩ := st
    exact ⟨kp z (by simp) _ hz, kp TI (by simp) _ hTI, ⟨x, y, kp TO (by simp) _ hTO⟩, h1.keep fun o q => kp i1 (by simp) o q, h2.keep fun o q => kp i2 (by simp) o q⟩
  item := by
    intro X hP hw hK hc i pins s σ H E I hf st hg
    subst hP hw hK
    obtain ⟨hz, hTI, hTO, h1, h2⟩ := st
    obtain ⟨us, ws, hqx, hqy, hi⟩ := hg
    obtain ⟨its, rv, p, _⟩ := seqK I hqx
    obtain ⟨its2, rv2, p2, _⟩ := seqK I hqy
    have l1 := rv.length
    have l2 := rv2.length
    have G := zip_cells (P := X.prog) (w := X.w) (A := X.A) (elts := elts) (kk := kk) (tpos := tpos) (k := k) (k2 := k2) (its := its.toArray) (its2 := its2.toArray) (I.ok.hd hc) S (it_ne p h1) (it_ne p2 h2)
    refine G.goes i s (fun v s2 => ∃ y H', L2.Inv X pins σ H' s2 ∧ RelV y v ∧ (ItzK X.K k k2 a b).yld i H y H' ∧ (IsZip s2.heap z TI TO .none ∧ IsTupOf2 s2.heap TI (.ref i1) (.ref i2) ∧ (∃ x y, IsTupOf2 s2.heap TO x y) ∧ IsIt k s2.heap i1 a (i + 1) ∧ IsIt k2 s2.heap i2 b (i + 1)) ∧ ∀ b ∈ [z, TI, TO, i1, i2], H' b = none) E
      (by simp only [List.size_toArray]; omega) ⟨hz, hTI, hTO, ⟨h1, p⟩, h2, p2⟩ fun v h' tk hY st' hk htk => ?_
    obtain ⟨T, u, u2, rfl, hT, hu, hu2, hTt⟩ := hY
    have hlx : i < us.length := by omega
    have hly : i < ws.length := by omega
    obtain ⟨v1, e1, r1⟩ := rv.get (List.getElem?_eq_getElem hlx)
    obtain ⟨v2, e2, r2⟩ := rv2.get (List.getElem?_eq_getElem hly)
    have ea : v1 = u := by
      have q : its[i]? = some u := by simpa using hu
      rw [e1] at q
      exact Option.some.inj q
    have eb : v2 = u2 := by
      have q : its2[i]? = some u2 := by simpa using hu2
      rw [e2] at q
      exact Option.some.inj q
    subst ea eb
    have hf4 : ∀ c ∈ [z, TO, i1, i2], FpOk X pins H c := fun c hcm => hf c (by
      have e' : c = z ∨ c = TO ∨ c = i1 ∨ c = i2 := by simpa using hcm
      rcases e' with q | q | q | q <;> simp [q])
    have J := turned_tup (t' := tk) (xs := [us[i], ws[i]]) (vs := [v1, v2]) I hk hf4 hT (.cons r1 (.cons r2 .nil)) (by show 2 ≤ sizeLine; decide) hTt
    obtain ⟨g1, g2, g3, ⟨g4, _⟩, g5, _⟩ := st'
    refine ⟨.ref T, _, J, rfl, ⟨T, _, _, rfl, I.hok.fresh hT, rfl, fun xs hxs => by rw [seqK_inj I hxs hqx]; exact List.getElem?_eq_getElem hlx, fun xs hxs => by rw [seqK_inj I hxs hqy]; exact List.getElem?_eq_getElem hly⟩, ⟨g1, g2, g3, g4, g5⟩, fun c hcm => ?_⟩
    have hlt : c < s.heap.objs.size := by
      have e' : c = z ∨ c = TI ∨ c = TO ∨ c = i1 ∨ c = i2 := by simpa using hcm
      rcases e' with q | q | q | q | q
      · rw [q]; exact Heap.lt_size hz
      · rw [q]; exact Heap.lt_size hTI
      · rw [q]; obtain ⟨_, _, e⟩ := hTO; exact Heap.lt_size e
      · rw [q]; obtain ⟨_, e, _⟩ := h1.cls; exact Heap.lt_size e
      · rw [q]; obtain ⟨_, e, _⟩ := h2.cls; exact Heap.lt_size e
    rw [upd_ne (Nat.ne_of_lt (Nat.lt_of_lt_of_le hlt hT))]
    exact (hf c hcm).1
  done := by
    intro X hP hw hK hc i pins s σ H E I hf st hg
    subst hP hw hK
    obtain ⟨hz, hTI, hTO, h1, h2⟩ := st
    obtain ⟨us, ws, hqx, hqy, hi⟩ := hg
    obtain ⟨its, rv, p, _⟩ := seqK I hqx
    obtain ⟨its2, rv2, p2, _⟩ := seqK I hqy
    have l1 := rv.length
    have l2 := rv2.length
    have G := zip_cells (P := X.prog) (w := X.w) (A := X.A) (elts := elts) (kk := kk) (tpos := tpos) (k := k) (k2 := k2) (its := its.toArray) (its2 := its2.toArray) (I.ok.hd hc) S (it_ne p h1) (it_ne p2 h2)
    have hn : min its.toArray.size its2.toArray.size = i := by simp only [List.size_toArray]; omega
    refine G.stops s (fun s1 => L2.Inv X pins σ H s1) E (by rw [hn]; exact ⟨hz, hTI, hTO, ⟨h1, p⟩, h2, p2⟩) fun h' tk hk _ => ?_
    have hf4 : ∀ c ∈ [z, TO, i1, i2], FpOk X pins H c := fun c hcm => hf c (by
      have e' : c = z ∨ c = TO ∨ c = i1 ∨ c = i2 := by simpa using hcm
      rcases e' with q | q | q | q <;> simp [q])
    exact I.turnedL (t' := tk) (ch := [z, TO, i1, i2]) hk hf4
  self := fun A i s Q E st h => wpAny_pyIter_zip st.1 h
end KR

set_option Elab.async false
set_option linter.all false
set_option maxRecDepth 100000
set_option maxHeartbeats 2000000
/-! Rules: what is walked, statements, loops. -/
namespace KR
open PySem L2 PyProof.Rows

/-- what was frozen once is so still -/
def Lat (F0 : Addr → Prop) (H0 : Hp) (F : Addr → Prop) (H : Hp) : Prop := (∀ a, F0 a → F a) ∧ ∀ a, F0 a → H a = H0 a
/-- J walks the data xs -/
structure WalkD (K : PySem.W.Frag) (cl : Nat → Addr) (J : It) (xs : List D) (F0 : Addr → Prop) (H0 : Hp) : Prop where
  goes : ∀ (i : Nat) (F : Addr → Prop) (H : Hp) (n : Addr → Nat), i < xs.length → Lat F0 H0 F H → WF F H n → J.go i H
  stops : ∀ (F : Addr → Prop) (H : Hp) (n : Addr → Nat), Lat F0 H0 F H → WF F H n → J.stop xs.length H
  yields : ∀ (i : Nat) (F : Addr → Prop) (H : Hp) (n : Addr → Nat) (v : V) (H' : Hp), i < xs.length → Lat F0 H0 F H → WF F H n → J.yld i H v H' →
    ∃ (d : D) (F' : Addr → Prop), xs[i]? = some d ∧ R K cl F' H' d v ∧ WF F' H' n ∧ Ext F H n F' H' n ∧ Same H H'

section
variable {K : PySem.W.Frag} {cl : Nat → Addr} {W : WX} {F F' : Addr → Prop} {H H' : Hp} {n n' m : Addr → Nat} {σ : L2.St} {ρ : Env}
theorem RL.lat {xs : List D} {vs : List V} {F0 : Addr → Prop} {H0 : Hp} (r : RL K cl F0 H0 xs vs) (l : Lat F0 H0 F H) : RL K cl F H xs vs := RL.mono l.1 l.2 xs r
theorem R.lat {x : D} {v : V} {F0 : Addr → Prop} {H0 : Hp} (r : R K cl F0 H0 x v) (l : Lat F0 H0 F H) : R K cl F H x v := R.mono l.1 l.2 x r
/-- a list's or a tuple's items -/
def itOf (K : PySem.W.Frag) (k : Bool) (a : Addr) : It := if k = true then Itt K a else Itl K a
theorem R.seq {x : D} {v : V} {xs : List D} (r : R K cl F H x v) (e : x = .tup xs ∨ x = .lst xs ∨ x = .lsr xs) : ∃ (k : Bool) (a : Addr) (us : List V), v = .ref a ∧ (∀ F' H', Lat F H F' H' → SqK K k H' a us) ∧ RL K cl F H xs us := by
  rcases e with rfl | rfl | rfl
  · obtain ⟨a, us, rfl, h, rl⟩ := r
    exact ⟨true, a, us, rfl, fun F' H' l => (FT.mono h l.1 l.2).seq, rl⟩
  · obtain ⟨a, us, rfl, h1, h2, rl⟩ := r
    exact ⟨false, a, us, rfl, fun F' H' l => SqL.of (by rw [l.2 a h1]; exact h2), rl⟩
  · obtain ⟨a, us, rfl, h, rl⟩ := r
    exact ⟨false, a, us, rfl, fun F' H' l => (FL.mono h l.1 l.2).seq, rl⟩
theorem walkD_seq {k : Bool} {a : Addr} {us : List V} {xs : List D} (hs : ∀ F' H', Lat F H F' H' → SqK K k H' a us) (rl : RL K cl F H xs us) : WalkD K cl (itOf K k a) xs F H := by
  have hl := rl.length
  refine ⟨fun i F1 H1 n1 hi l w => ?_, fun F1 H1 n1 l w => ?_, fun i F1 H1 n1 v H2 hi l w y => ?_⟩
  · obtain ⟨v, hv, _⟩ := rl.get (List.getElem?_eq_getElem hi)
    cases k with
    | false => exact ⟨us, v, hs F1 H1 l, hv⟩
    | true => exact ⟨us, v, hs F1 H1 l, hv⟩
  · cases k with
    | false => exact ⟨us, hs F1 H1 l, by omega⟩
    | true => exact ⟨us, hs F1 H1 l, by omega⟩
  · obtain ⟨u, hu, ru⟩ := rl.get (List.getElem?_eq_getElem hi)
    have key : H2 = H1 ∧ us[i]? = some v := by
      cases k with
      | false => exact ⟨y.1, y.2 us (hs F1 H1 l)⟩
      | true => exact ⟨y.1, y.2 us (hs F1 H1 l)⟩
    obtain ⟨rfl, e⟩ := key
    rw [hu] at e
    cases e
    exact ⟨_, F1, List.getElem?_eq_getElem hi, ru.lat l, w, Ext.refl, Same.refl _⟩
theorem walkD_range {lo : Int} {k : Nat} : WalkD K cl (Itr lo k) ((List.range k).map fun i => .int (lo + (i : Nat))) F H := by
  refine ⟨fun i F1 H1 n1 hi l w => ?_, fun F1 H1 n1 l w => ?_, fun i F1 H1 n1 v H2 hi l w y => ?_⟩
  · show i < k; simpa using hi
  · show k ≤ _; simp
  · obtain ⟨rfl, rfl⟩ := y
    have hk : i < k := by simpa using hi
    exact ⟨.int (lo + (i : Nat)), F1, by simp [hk], rfl, w, Ext.refl, Same.refl _⟩
theorem walkD_str {z : Str} : WalkD K cl (Its z) (z.cps.toList.map fun c => .str ⟨#[c]⟩) F H := by
  refine ⟨fun i F1 H1 n1 hi l w => ?_, fun F1 H1 n1 l w => ?_, fun i F1 H1 n1 v H2 hi l w y => ?_⟩
  · show i < z.cps.size; simpa using hi
  · show z.cps.size ≤ _; simp
  · obtain ⟨rfl, c, hc, rfl⟩ := y
    exact ⟨.str ⟨#[c]⟩, F1, by simp [hc], rfl, w, Ext.refl, Same.refl _⟩
/-- pairs that come new -/
theorem new_pair {x y : D} {vx vy : V} {T : Addr} (w : WF F H n) (hT : H T = none) (rx : R K cl F H x vx) (ry : R K cl F H y vy) :
    R K cl (fun a => F a ∨ a = T) (upd H T (.tup [vx, vy])) (.tup [x, y]) (.ref T) ∧ WF (fun a => F a ∨ a = T) (upd H T (.tup [vx, vy])) n ∧ Ext F H n (fun a => F a ∨ a = T) (upd H T (.tup [vx, vy])) n ∧ Same H (upd H T (.tup [vx, vy])) := by
  obtain ⟨w2, e2⟩ := new_frz (o := .tup [vx, vy]) w hT
  exact ⟨⟨T, [vx, vy], rfl, .inl ⟨.inr rfl, .inl upd_same⟩, vx, [vy], rfl, rx.new hT w, vy, [], rfl, ry.new hT w, rfl⟩, w2, e2, fun b o h => by rw [upd_ne (ne_of_none h hT)]; exact h⟩
def enumD (i : Nat) : List D → List D
  | [] => []
  | x :: xs => .tup [.int (i : Nat), x] :: enumD (i + 1) xs
theorem enumD_length : ∀ (xs : List D) (i : Nat), (enumD i xs).length = xs.length
  | [], _ => rfl
  | _ :: xs, i => by unfold enumD; rw [List.length_cons, List.length_cons, enumD_length xs]
theorem enumD_get : ∀ (xs : List D) (i j : Nat) {d : D}, xs[j]? = some d → (enumD i xs)[j]? = some (.tup [.int ((i + j : Nat)), d])
  | [], _, _, _, h => by simp at h
  | x :: xs, i, 0, d, h => by
    simp at h
    subst h
    rfl
  | x :: xs, i, j + 1, d, h => by
    unfold enumD
    rw [List.getElem?_cons_succ, enumD_get xs (i + 1) j (by simpa using h)]
    have e : i + 1 + j = i + (j + 1) := by omega
    rw [e]
theorem walkD_enum {k : Bool} {a : Addr} {us : List V} {xs : List D} (hs : ∀ F' H', Lat F H F' H' → SqK K k H' a us) (rl : RL K cl F H xs us) : WalkD K cl (IteK K k a) (enumD 0 xs) F H := by
  have hl := rl.length
  have he := enumD_length xs 0
  refine ⟨fun i F1 H1 n1 hi l w => ?_, fun F1 H1 n1 l w => ?_, fun i F1 H1 n1 v H2 hi l w y => ?_⟩
  · have hi' : i < xs.length := by omega
    obtain ⟨v, hv, _⟩ := rl.get (List.getElem?_eq_getElem hi')
    exact ⟨us, v, hs F1 H1 l, hv⟩
  · exact ⟨us, hs F1 H1 l, by omega⟩
  · have hi' : i < xs.length := by omega
    obtain ⟨u, hu, ru⟩ := rl.get (List.getElem?_eq_getElem hi')
    obtain ⟨T, x, rfl, hT, rfl, hx⟩ := y
    have e := hx us (hs F1 H1 l)
    rw [hu] at e
    cases e
    obtain ⟨r2, w2, e2, s2⟩ := new_pair (x := .int (i : Nat)) (vx := .int (i : Nat)) w hT rfl (ru.lat l)
    refine ⟨_, _, ?_, r2, w2, e2, s2⟩
    rw [enumD_get xs 0 i (List.getElem?_eq_getElem hi')]
    simp
def zipD : List D → List D → List D
  | x :: xs, y :: ys => .tup [x, y] :: zipD xs ys
  | _, _ => []
theorem zipD_length : ∀ (xs ys : List D), (zipD xs ys).length = min xs.length ys.length
  | [], _ => by simp [zipD]
  | _ :: _, [] => by simp [zipD]
  | x :: xs, y :: ys => by
    unfold zipD
    rw [List.length_cons, zipD_length xs ys, List.length_cons, List.length_cons]
    omega
theorem zipD_get : ∀ (xs ys : List D) (j : Nat) {d e : D}, xs[j]? = some d → ys[j]? = some e → (zipD xs ys)[j]? = some (.tup [d, e])
  | [], _, _, _, _, h, _ => by simp at h
  | _ :: _, [], _, _, _, _, h => by simp at h
  | x :: xs, y :: ys, 0, d, e, h, h2 => by
    simp at h h2
    subst h h2
    rfl
  | x :: xs, y :: ys, j + 1, d, e, h, h2 => by
    unfold zipD
    rw [List.getElem?_cons_succ]
    exact zipD_get xs ys j (by simpa using h) (by simpa using h2)
theorem walkD_zip {k k2 : Bool} {a b : Addr} {us ws : List V} {xs ys : List D} (hs : ∀ F' H', Lat F H F' H' → SqK K k H' a us) (rl : RL K cl F H xs us) (hs2 : ∀ F' H', Lat F H F' H' → SqK K k2 H' b ws) (rl2 : RL K cl F H ys ws) :
    WalkD K cl (ItzK K k k2 a b) (zipD xs ys) F H := by
  have hl := rl.length
  have hl2 := rl2.length
  have he := zipD_length xs ys
  refine ⟨fun i F1 H1 n1 hi l w => ?_, fun F1 H1 n1 l w => ?_, fun i F1 H1 n1 v H2 hi l w y => ?_⟩
  · exact ⟨us, ws, hs F1 H1 l, hs2 F1 H1 l, by omega⟩
  · exact ⟨us, ws, hs F1 H1 l, hs2 F1 H1 l, by omega⟩
  · have hi1 : i < xs.length := by omega
    have hi2 : i < ys.length := by omega
    obtain ⟨u, hu, ru⟩ := rl.get (List.getElem?_eq_getElem hi1)
    obtain ⟨u2, hu2, ru2⟩ := rl2.get (List.getElem?_eq_getElem hi2)
    obtain ⟨T, x, x2, rfl, hT, rfl, hx, hx2⟩ := y
    have e := hx us (hs F1 H1 l)
    rw [hu] at e
    cases e
    have e := hx2 ws (hs2 F1 H1 l)
    rw [hu2] at e
    cases e
    obtain ⟨r2, w2, e2, s2⟩ := new_pair w hT (ru.lat l) (ru2.lat l)
    exact ⟨_, _, zipD_get xs ys i (List.getElem?_eq_getElem hi1) (List.getElem?_eq_getElem hi2), r2, w2, e2, s2⟩
end

/-- what an iterable's reading asks -/
def pI (K : PySem.W.Frag) (cl : Nat → Addr) (F : Addr → Prop) (H : Hp) (n : Addr → Nat) (σ : L2.St) (Rq : It → Hp → Prop) : List D → Env → Prop := fun xs ρ' =>
  ∀ (J : It) (F' : Addr → Prop) (H' : Hp) (n' : Addr → Nat), WalkD K cl J xs F' H' → SL K cl F' H' ρ' σ n' → WF F' H' n' → Ext F H n F' H' n' → Rq J H'
def tI (K : PySem.W.Frag) (cl : Nat → Addr) (W : WX) (d : M (List D)) : TI := fun σ H Rq => ∃ (F : Addr → Prop) (ρ : Env) (n : Addr → Nat), SL K cl F H ρ σ n ∧ WF F H n ∧ Mt K cl W F H n σ (d ρ) (pI K cl F H n σ Rq)
def DI (C : Cf) (tg e : Expr) (d : M (List D)) : Prop := PI C.X tg e (tI C.X.K C.cl C.W d)
theorem pI.step {K : PySem.W.Frag} {cl : Nat → Addr} {F F' : Addr → Prop} {H H' : Hp} {n n' : Addr → Nat} {σ : L2.St} {Rq : It → Hp → Prop} {xs : List D} {ρ : Env} (w : WF F H n) (e : Ext F H n F' H' n') (h : pI K cl F H n σ Rq xs ρ) : pI K cl F' H' n' σ Rq xs ρ :=
  fun J F2 H2 n2 k s wf ex => h J F2 H2 n2 k s wf (e.trans w ex)
def seqD : D → Option (List D)
  | .tup xs => some xs
  | .lst xs => some xs
  | .lsr xs => some xs
  | _ => none
/-- a text's signs, too -/
def itemsD : D → Option (List D)
  | .tup xs => some xs
  | .lst xs => some xs
  | .lsr xs => some xs
  | .str z => some (z.cps.toList.map fun c => .str ⟨#[c]⟩)
  | _ => none
theorem seqD_or {x : D} {xs : List D} (h : seqD x = some xs) : x = .tup xs ∨ x = .lst xs ∨ x = .lsr xs := by
  cases x with
  | tup ys => cases h; exact .inl rfl
  | lst ys => cases h; exact .inr (.inl rfl)
  | lsr ys => cases h; exact .inr (.inr rfl)
  | _ => cases h
section
variable {C : Cf} {tg e e2 : Expr} {d : M D} {p pos tpos : Pos}
def its (d : M D) : M (List D) := bnd d fun x => lift (itemsD x)
theorem i_seq (h : DE C e d) : DI C tg e (its d) := by
  refine ⟨fun pins s σ H Rq I ⟨F, ρ, n, sl, wf, q⟩ => ?_⟩
  refine thn (h.run pins s σ H (fun x H1 => (∃ (k : Bool) (a : Addr) (us : List V), x = .ref a ∧ SqK C.X.K k H1 a us ∧ Rq (itOf C.X.K k a) H1) ∨ ∃ z, x = .str z ∧ Rq (Its z) H1) I ⟨F, ρ, n, sl, wf, q.bnd.imp fun x ρ1 q => ?_⟩) fun v s1 ⟨x, H1, I1, r1, q1⟩ => ?_
  · obtain ⟨xs, ex, q⟩ := Mt_lift q
    intro v F1 H1 n1 rx sl1 wf1 ex1
    have key : (x = .tup xs ∨ x = .lst xs ∨ x = .lsr xs) → (∃ (k : Bool) (a : Addr) (us : List V), v = .ref a ∧ SqK C.X.K k H1 a us ∧ Rq (itOf C.X.K k a) H1) := fun e => by
      obtain ⟨k, a, us, rfl, hs, rl⟩ := R.seq rx e
      exact ⟨k, a, us, rfl, hs F1 H1 ⟨fun _ h => h, fun _ _ => rfl⟩, q _ F1 H1 n1 (walkD_seq hs rl) sl1 wf1 ex1⟩
    cases x with
    | tup ys => cases ex; exact .inl (key (.inl rfl))
    | lst ys => cases ex; exact .inl (key (.inr (.inl rfl)))
    | lsr ys => cases ex; exact .inl (key (.inr (.inr rfl)))
    | str z => cases ex; cases rx; exact .inr ⟨z, rfl, q _ F1 H1 n1 walkD_str sl1 wf1 ex1⟩
    | _ => cases ex
  · rcases q1 with ⟨k, a, us, rfl, hs, q1⟩ | ⟨z, rfl, q1⟩
    · cases r1
      cases k with
      | false =>
        obtain ⟨its, rv, pl, hz⟩ := I1.list hs
        exact wpAny_pyIter_list pl.isList (pi_one (tk := s1.toks) I1 _ (turn_list a _) ⟨_, Heap.get?_push_size _ rfl, rfl, rfl⟩ q1)
      | true =>
        obtain ⟨its, rv, pl, hz⟩ := I1.tuple hs
        exact wpAny_pyIter_tuple pl (pi_one (tk := s1.toks) I1 _ (turn_tuple a _) ⟨_, Heap.get?_push_size _ rfl, rfl, rfl⟩ q1)
    · obtain ⟨t, rfl⟩ := r1
      cases ha : z.cps.all (· < 128)
      · exact wpAny_pyIter_wide ha (pi_one (tk := s1.toks) I1 _ (turn_str _ z t "str_iterator" (.inr rfl)) ⟨_, Heap.get?_push_size _ rfl, rfl, rfl⟩ q1)
      · exact wpAny_pyIter_ascii ha (pi_one (tk := s1.toks) I1 _ (turn_str _ z t "str_ascii_iterator" (.inl rfl)) ⟨_, Heap.get?_push_size _ rfl, rfl, rfl⟩ q1)
theorem PI.imp {X : Cx} {t t' : TI} (h : PI X tg e t) (i : ∀ σ H Q, t' σ H Q → t σ H Q) : PI X tg e t' := ⟨fun pins s σ H Q I q => h.run pins s σ H Q I (i σ H Q q)⟩
/-- range(n) -/
def rngD (lo hi : Int) : List D := (List.range (hi - lo).toNat).map fun i => .int (lo + (i : Nat))
def okR (i : Int) : Prop := -(2 ^ 62) ≤ i ∧ i < 2 ^ 62
instance (i : Int) : Decidable (okR i) := by unfold okR; infer_instance
def rng1 : List D → Option (List D)
  | [.int j] => if okR j then some (rngD 0 j) else none
  | _ => none
def rng2 : List D → Option (List D)
  | [.int i, .int j] => if okR i ∧ okR j then some (rngD i j) else none
  | _ => none
def icl (g : List D → Option (List D)) (a : M (List D)) : M (List D) := bnd a fun x => lift (g x)
theorem i_range1 {da : M (List D)} (hg : Gl C.X "range") (hm : C.X.mg "range" = none) (ha : DA C [e] da) (hs : starEach [e] C.X.env = [(false, eval e C.X.env)] := by rfl) : DI C tg (.Call (.Name "range" p) [e] [] pos) (icl rng1 da) := by
  refine PI.imp (pi_range1 hg hm ha hs) fun σ H Rq ⟨F, ρ, n, sl, wf, q⟩ => ⟨F, ρ, n, sl, wf, q.bnd.imp fun xs ρ1 q => ?_⟩
  obtain ⟨ys, ex, q⟩ := Mt_lift q
  intro vs F1 H1 n1 rs sl1 wf1 ex1
  unfold rng1 at ex
  split at ex
  · rename_i j
    split at ex
    · rename_i ok
      cases ex
      obtain ⟨v, rfl, rv⟩ := rs.one
      cases rv
      have w : WalkD C.X.K C.cl (Itr 0 j.toNat) (rngD 0 j) F1 H1 := by
        unfold rngD
        rw [Int.sub_zero]
        exact walkD_range
      exact ⟨j, rfl, ok.1, ok.2, q _ F1 H1 n1 w sl1 wf1 ex1⟩
    · cases ex
  · cases ex
theorem i_range2 {da : M (List D)} (hg : Gl C.X "range") (hm : C.X.mg "range" = none) (ha : DA C [e, e2] da) (hs : starEach [e, e2] C.X.env = [(false, eval e C.X.env), (false, eval e2 C.X.env)] := by rfl) (hs2 : starEach [e2] C.X.env = [(false, eval e2 C.X.env)] := by rfl) :
    DI C tg (.Call (.Name "range" p) [e, e2] [] pos) (icl rng2 da) := by
  refine PI.imp (pi_range2 hg hm ha hs hs2) fun σ H Rq ⟨F, ρ, n, sl, wf, q⟩ => ⟨F, ρ, n, sl, wf, q.bnd.imp fun xs ρ1 q => ?_⟩
  obtain ⟨ys, ex, q⟩ := Mt_lift q
  intro vs F1 H1 n1 rs sl1 wf1 ex1
  unfold rng2 at ex
  split at ex
  · rename_i i j
    split at ex
    · rename_i ok
      cases ex
      obtain ⟨v, u, rfl, rv, ru⟩ := rs.two
      cases rv
      cases ru
      exact ⟨i, j, rfl, ⟨ok.1.1, ok.1.2, ok.2.1, ok.2.2⟩, q _ F1 H1 n1 walkD_range sl1 wf1 ex1⟩
    · cases ex
  · cases ex
def enu : List D → Option (List D)
  | [x] => (seqD x).map (enumD 0)
  | _ => none
theorem i_enum {da : M (List D)} {elts : List Expr} {kk : Nat} (hg : Gl C.X "enumerate") (hm : C.X.mg "enumerate" = none) (ha : DA C [e] da) (hs : starEach [e] C.X.env = [(false, eval e C.X.env)] := by rfl) :
    DI C (.Tuple elts kk tpos) (.Call (.Name "enumerate" p) [e] [] pos) (icl enu da) := by
  refine ⟨fun pins s σ H Rq I ⟨F, ρ, n, sl, wf, q⟩ => ?_⟩
  refine Call_ (ld_blt I hg hm boot_enumerate (PyProof.Rows.callWith_type1 (thn (ha.run pos pins s σ H (fun vs H1 => ∃ (k : Bool) (a : Addr) (us : List V), vs = [.ref a] ∧ SqK C.X.K k H1 a us ∧ Rq (IteK C.X.K k a) H1) I ⟨F, ρ, n, sl, wf, q.bnd.imp fun xs ρ1 q => ?_⟩) fun us s1 ⟨vs, H1, I1, r1, k, a, ws, ev, hq, q1⟩ => ?_) hs rfl))
  · obtain ⟨ys, ex, q⟩ := Mt_lift q
    intro vs F1 H1 n1 rs sl1 wf1 ex1
    unfold enu at ex
    split at ex
    · rename_i x
      cases hx : seqD x with
      | none => rw [hx] at ex; cases ex
      | some zs =>
        rw [hx] at ex
        cases ex
        obtain ⟨v, rfl, rv⟩ := rs.one
        obtain ⟨k, a, us, rfl, h1, rl⟩ := R.seq rv (seqD_or hx)
        exact ⟨k, a, us, rfl, h1 F1 H1 ⟨fun _ h => h, fun _ _ => rfl⟩, q _ F1 H1 n1 (walkD_enum h1 rl) sl1 wf1 ex1⟩
    · cases ex
  · subst ev
    cases r1 with
    | cons ra rr =>
      cases rr
      cases ra
      obtain ⟨its, rv, pq, hz⟩ := seqK I1 hq
      refine enum1_begins (beginsK a its.toArray) pq fun h' he hit hk => wpAny_pyIter_enum he ?_
      have I2 : L2.Inv C.X pins σ H1 { s1 with heap := h' } := I1.kept (t' := s1.toks) hk
      refine ⟨s1.heap.objs.size + 1, [s1.heap.objs.size + 1, s1.heap.objs.size], _, _, H1, rfl, I2, turn_enumK k a (s1.heap.objs.size + 1) s1.heap.objs.size, ⟨⟨.none, he⟩, itObj_is hit, Nat.succ_ne_self _⟩, fun b hb => ?_, q1⟩
      have hle : s1.heap.objs.size ≤ b := by
        rcases List.mem_cons.mp hb with z | z
        · rw [z]; exact Nat.le_add_right _ _
        · rw [List.mem_singleton.mp z]; exact Nat.le_refl _
      exact I1.fpOk hle (I1.hok.fresh hle)
def zpp : List D → Option (List D)
  | [x, y] => match seqD x, seqD y with
    | some xs, some ys => some (zipD xs ys)
    | _, _ => none
  | _ => none
theorem i_zip {da : M (List D)} {elts : List Expr} {kk : Nat} (hg : Gl C.X "zip") (hm : C.X.mg "zip" = none) (ha : DA C [e, e2] da) (hs : starEach [e, e2] C.X.env = (false, eval e C.X.env) :: starEach [e2] C.X.env := by rfl) (hpl : (backTo pos (starEach [e2] C.X.env)).any (·.1) = false := by rfl) :
    DI C (.Tuple elts kk tpos) (.Call (.Name "zip" p) [e, e2] [] pos) (icl zpp da) := by
  refine ⟨fun pins s σ H Rq I ⟨F, ρ, n, sl, wf, q⟩ => ?_⟩
  refine Call_ (ld_blt I hg hm boot_zip (PyProof.Rows.callWith_type1 (thn (ha.run pos pins s σ H (fun vs H1 => ∃ (k k2 : Bool) (a b : Addr) (us ws : List V), vs = [.ref a, .ref b] ∧ SqK C.X.K k H1 a us ∧ SqK C.X.K k2 H1 b ws ∧ Rq (ItzK C.X.K k k2 a b) H1) I ⟨F, ρ, n, sl, wf, q.bnd.imp fun xs ρ1 q => ?_⟩) fun us s1 ⟨vs, H1, I1, r1, k, k2, a, b, ws, ws2, ev, hq, hq2, q1⟩ => ?_) hs hpl))
  · obtain ⟨ys, ex, q⟩ := Mt_lift q
    intro vs F1 H1 n1 rs sl1 wf1 ex1
    unfold zpp at ex
    split at ex
    · rename_i x y
      cases hx : seqD x with
      | none => rw [hx] at ex; cases ex
      | some zs =>
        cases hy : seqD y with
        | none => rw [hx, hy] at ex; cases ex
        | some zs2 =>
          rw [hx, hy] at ex
          cases ex
          obtain ⟨v, u, rfl, rv, ru⟩ := rs.two
          obtain ⟨k, a, us, rfl, h1, rl⟩ := R.seq rv (seqD_or hx)
          obtain ⟨k2, b, us2, rfl, h2, rl2⟩ := R.seq ru (seqD_or hy)
          have l0 : Lat F1 H1 F1 H1 := ⟨fun _ h => h, fun _ _ => rfl⟩
          exact ⟨k, k2, a, b, us, us2, rfl, h1 F1 H1 l0, h2 F1 H1 l0, q _ F1 H1 n1 (walkD_zip h1 rl h2 rl2) sl1 wf1 ex1⟩
    · cases ex
  · subst ev
    cases r1 with
    | cons ra rr =>
      cases rr with
      | cons rb rr =>
        cases rr
        cases ra
        cases rb
        obtain ⟨its, rv, pq, _⟩ := seqK I1 hq
        obtain ⟨its2, rv2, pq2, _⟩ := seqK I1 hq2
        have la : a < s1.heap.objs.size := by obtain ⟨o, eo, _⟩ := pq.cls; exact Heap.lt_size eo
        have lb : b < s1.heap.objs.size := by obtain ⟨o, eo, _⟩ := pq2.cls; exact Heap.lt_size eo
        refine zip_begins2 (beginsK a its.toArray) (beginsK b its2.toArray) pq pq2 fun h' hz hTI hTO h1 h2 hsz hk => wpAny_pyIter_zip hz ?_
        have I2 : L2.Inv C.X pins σ H1 { s1 with heap := h' } := I1.kept (t' := s1.toks) hk
        have S := zip_sep2 (N := s1.heap.objs.size) (fp1 := [a]) (fp2 := [b]) (fun c hc => by rw [List.mem_singleton.mp hc]; exact la) (fun c hc => by rw [List.mem_singleton.mp hc]; exact lb)
        refine ⟨s1.heap.objs.size + 4, [s1.heap.objs.size + 4, s1.heap.objs.size + 2, s1.heap.objs.size + 3, s1.heap.objs.size, s1.heap.objs.size + 1], _, _, H1, rfl, I2, turn_zipK k k2 S, ⟨hz, hTI, ⟨_, _, hTO⟩, itObj_is h1, itObj_is h2⟩, fun c hcm => ?_, q1⟩
        have hle : s1.heap.objs.size ≤ c := by
          have e' : c = s1.heap.objs.size + 4 ∨ c = s1.heap.objs.size + 2 ∨ c = s1.heap.objs.size + 3 ∨ c = s1.heap.objs.size ∨ c = s1.heap.objs.size + 1 := by simpa using hcm
          rcases e' with z | z | z | z | z <;> rw [z] <;> first | exact Nat.le_add_right _ _ | exact Nat.le_refl _
        exact I1.fpOk hle (I1.hok.fresh hle)
end
end KR

set_option Elab.async false
set_option linter.all false
set_option maxRecDepth 100000
set_option maxHeartbeats 2000000
/-! Rules: statements. -/
namespace KR
open PySem L2 PyProof.Rows

section
variable {K : PySem.W.Frag} {cl : Nat → Addr} {W : WX} {F F' : Addr → Prop} {H H' : Hp} {n n' m : Addr → Nat} {σ σ' : L2.St} {ρ : Env} {lk : List Nat} {D : Ends}
theorem Lk.trans {σ1 σ2 σ3 : L2.St} (a : Lk lk σ1 σ2) (b : Lk lk σ2 σ3) : Lk lk σ1 σ3 := fun i hi => (b i hi).trans (a i hi)
theorem pN.step {Q : L2.St → Hp → Prop} (w : WF F H n) (e : Ext F H n F' H' n') (l : Lk lk σ σ') (h : pN K cl F H n lk σ Q ρ) : pN K cl F' H' n' lk σ' Q ρ := fun σ2 F2 H2 n2 s wf ex lk2 => h σ2 F2 H2 n2 s wf (e.trans w ex) (l.trans lk2)
theorem pR.step {Q : VK} {x : RV} (w : WF F H n) (e : Ext F H n F' H' n') (l : Lk lk σ σ') (h : pR K cl F H n lk σ Q x ρ) : pR K cl F' H' n' lk σ' Q x ρ := fun v σ2 F2 H2 m n2 r s wf ex lk2 => h v σ2 F2 H2 m n2 r s wf (e.trans w ex) (l.trans lk2)
theorem pX.step {x : XV} (w : WF F H n) (e : Ext F H n F' H' n') (l : Lk lk σ σ') (h : pX K cl W F H n lk σ x ρ) : pX K cl W F' H' n' lk σ' x ρ := fun c dx σ2 F2 H2 n2 r s wf ex lk2 => h c dx σ2 F2 H2 n2 r s wf (e.trans w ex) (l.trans lk2)
theorem Ms.step {o : Option (Except XV Fl × Env)} (w : WF F H n) (e : Ext F H n F' H' n') (l : Lk lk σ σ') (h : Ms K cl W F H n lk σ D o) : Ms K cl W F' H' n' lk σ' D o := by
  unfold Ms at h ⊢
  split at h
  · exact h
  · exact h.step w e l
  · exact h.step w e l
  · exact h.step w e l
  · exact h.step w e l
  · exact h.step w e l
theorem Lk.refl : Lk lk σ σ := fun _ _ => rfl
/-- an expression's exception is the statement's -/
theorem pX.of {x : XV} (h : pX K cl W F H n lk σ x ρ) : tX K cl W F H n σ x ρ := fun c dx F' H' n' r s w e => h c dx σ F' H' n' r s w e Lk.refl
/-- from an expression to what follows it -/
def sbnd {α : Type} (x : M α) (f : α → S) : S := fun lk ρ =>
  match x ρ with
  | none => none
  | some (.error e, ρ') => some (.error e, ρ')
  | some (.ok a, ρ') => f a lk ρ'
theorem Ms.bnd {α : Type} {d : M α} {f : α → S} (h : Ms K cl W F H n lk σ D (sbnd d f lk ρ)) : Mt K cl W F H n σ (d ρ) fun a ρ' => Ms K cl W F H n lk σ D (f a lk ρ') := by
  unfold sbnd at h
  unfold Mt
  cases e : d ρ with
  | none => rw [e] at h; exact h
  | some p =>
    obtain ⟨r, ρ'⟩ := p
    rw [e] at h
    cases r with
    | error x => exact pX.of h
    | ok a => exact h
/-- a name gets a value -/
theorem put_ok {F0 : Addr → Prop} {H0 : Hp} {n0 : Addr → Nat} {σ0 : L2.St} {Q : L2.St → Hp → Prop} {i : Nat} {r : RV} {v : V} (q : pN K cl F0 H0 n0 lk σ0 Q (ρ.set i (some r))) (ro : RO K cl F H r v m) (sl : SL K cl F H ρ σ n)
    (wf : WF F H (fun a => m a + n a)) (ex : Ext F0 H0 n0 F H (fun a => m a + n a)) (l : Lk lk σ0 σ) (hi : i < ρ.length) (hk : i ∉ lk) : Q (σ.set i (some v)) H := by
  obtain ⟨n2, h2, put⟩ := SL.put sl hi
  have s2 := put (r' := some r) (s' := some v) (m := m) ⟨v, rfl, ro⟩
  refine q _ F H _ s2 (wf.sub fun a => by have := h2 a; omega) (ex.sub fun a => by have := h2 a; omega) fun j hj => ?_
  have hne : i ≠ j := fun e => hk (e ▸ hj)
  rw [List.getElem?_set_ne hne]
  exact l j hj
end

/-! ### blocks, small statements -/
def skip : S := fun _ ρ => some (.ok .nx, ρ)
def seq (a b : S) : S := fun lk ρ =>
  match a lk ρ with
  | some (.ok .nx, ρ') => b lk ρ'
  | o => o
def fl (f : Fl) : S := fun _ ρ => some (.ok f, ρ)
def sput (i : Nat) (r : RV) : S := fun lk ρ => if i < ρ.length ∧ i ∉ lk then some (.ok .nx, ρ.set i (some r)) else none
def sset (i : Nat) (d : M RV) : S := sbnd d fun r => sput i r
def sret (d : M RV) : S := sbnd d fun r => fl (.ret r)
def sif (t : M Bool) (a b : S) : S := sbnd t fun k => if k = true then a else b
def sdo {α : Type} (d : M α) : S := sbnd d fun _ => skip
section
variable {C : Cf} {lk : List Nat} {st : Stmt} {rest : List Stmt} {e : Expr} {pos pos' : Pos} {a b : S}
theorem b_nil : DB C lk [] skip := PSs.imp pss_nil fun D σ H ⟨F, ρ, n, sl, wf, q⟩ => q σ F H n sl wf Ext.refl Lk.refl
theorem seq_imp {t : TS} (hb : ∀ D σ H, tS C.X.K C.cl C.W lk b D σ H → t D σ H) : ∀ D σ H, tS C.X.K C.cl C.W lk (seq a b) D σ H → tS C.X.K C.cl C.W lk a { D with nx := t D } σ H := by
  intro D σ H ⟨F, ρ, n, sl, wf, q⟩
  refine ⟨F, ρ, n, sl, wf, ?_⟩
  unfold seq at q
  unfold Ms
  cases h : a lk ρ with
  | none => rw [h] at q; exact q
  | some p =>
    obtain ⟨r, ρ'⟩ := p
    rw [h] at q
    cases r with
    | error x => exact q
    | ok f =>
      cases f with
      | nx => exact fun σ' F' H' n' s w e l => hb D σ' H' ⟨F', ρ', n', s, w, Ms.step wf e l q⟩
      | bk => exact q
      | ct => exact q
      | ret x => exact q
theorem b_cons (h : DS C lk st a) (hr : DB C lk rest b) : DB C lk (st :: rest) (seq a b) := PSs.imp (pss_cons h hr) (seq_imp fun D σ H q => q)
theorem b_one (h : DS C lk st a) : DB C lk [st] a := pss_one h
theorem s_pass : DS C lk (.Pass pos) skip := PS.imp ps_pass fun D σ H ⟨F, ρ, n, sl, wf, q⟩ => q σ F H n sl wf Ext.refl Lk.refl
theorem s_break : DS C lk (.Break pos) (fl .bk) := PS.imp ps_break fun D σ H ⟨F, ρ, n, sl, wf, q⟩ => q σ F H n sl wf Ext.refl Lk.refl
theorem s_cont : DS C lk (.Continue pos) (fl .ct) := PS.imp ps_continue fun D σ H ⟨F, ρ, n, sl, wf, q⟩ => q σ F H n sl wf Ext.refl Lk.refl
theorem s_doc {x j} : DS C lk (.Expr (.Constant (.str x) j pos) pos') skip := PS.imp ps_doc fun D σ H ⟨F, ρ, n, sl, wf, q⟩ => q σ F H n sl wf Ext.refl Lk.refl
theorem s_ret {d : M RV} (h : DO C e d) : DS C lk (.Return (some e) pos) (sret d) := by
  refine PS.imp (ps_ret h) fun D σ H ⟨F, ρ, n, sl, wf, q⟩ => ⟨F, ρ, n, sl, wf, q.bnd.imp fun r ρ1 q => ?_⟩
  intro v F1 H1 m n1 ro sl1 wf1 ex1
  exact q v σ F1 H1 m n1 ro sl1 wf1 ex1 Lk.refl
theorem s_retN : DS C lk (.Return none pos) (sret (ret (.val .non))) := by
  refine PS.imp ps_retN fun D σ H ⟨F, ρ, n, sl, wf, q⟩ => ?_
  have q : pR C.X.K C.cl F H n lk σ D.rt (.val .non) ρ := q
  exact q .non σ F H (fun _ => 0) n ⟨rfl, fun _ => rfl⟩ sl (wf.congr fun _ => by show 0 + _ = _; omega) (Ext.refl.congr (fun _ => rfl) fun _ => by show 0 + _ = _; omega) Lk.refl
theorem s_if {c : Expr} {t : M Bool} {x y : List Stmt} (hc : DT C c t) (ha : DB C lk x a) (hb : DB C lk y b) : DS C lk (.If c x y pos) (sif t a b) := by
  refine PS.imp (ps_if hc ha hb) fun D σ H ⟨F, ρ, n, sl, wf, q⟩ => ⟨F, ρ, n, sl, wf, q.bnd.imp fun k ρ1 q => ?_⟩
  intro F1 H1 n1 sl1 wf1 ex1
  cases k with
  | true => exact ⟨F1, ρ1, n1, sl1, wf1, Ms.step wf ex1 Lk.refl q⟩
  | false => exact ⟨F1, ρ1, n1, sl1, wf1, Ms.step wf ex1 Lk.refl q⟩
theorem s_set {i : Nat} {x : Str} {d : M RV} (hi : C.X.N[i]? = some x) (hx : Loc C.X.env.scope x) (he : DO C e d) (hs : swapsWith e (some (.Name x pos')) pos.line C.X.env = pure false := by rfl)
    (hf : C.X.fn x = true ∨ C.X.env.scope.names.lookup x = some .local := by first | exact .inl rfl | exact .inr rfl) : DS C lk (.Assign [.Name x pos'] e pos) (sset i d) := by
  refine PS.imp (ps_set C.nd hi hx he hs hf) fun D σ H ⟨F, ρ, n, sl, wf, q⟩ => ⟨F, ρ, n, sl, wf, q.bnd.imp fun r ρ1 q => ?_⟩
  intro v F1 H1 m n1 ro sl1 wf1 ex1
  unfold sput at q
  split at q
  · rename_i h
    exact put_ok q ro sl1 wf1 ex1 Lk.refl h.1 h.2
  · exact q.elim
theorem s_expr {d : M D} (h : DE C e d) (hs : swapsWith e none pos.line C.X.env = pure false := by rfl) : DS C lk (.Expr e pos) (sdo d) := by
  refine PS.imp (ps_expr h hs) fun D σ H ⟨F, ρ, n, sl, wf, q⟩ => ⟨F, ρ, n, sl, wf, q.bnd.imp fun r ρ1 q => ?_⟩
  intro v F1 H1 n1 ro sl1 wf1 ex1
  exact q σ F1 H1 n1 sl1 wf1 ex1 Lk.refl

/-! ### targets -/
abbrev Gd := D → List Nat → Env → Option Env
abbrev Gds := List D → List Nat → Env → Option Env
def tGt (K : PySem.W.Frag) (cl : Nat → Addr) (lk : List Nat) (g : Gd) : TG := fun v σ H Q => ∃ (F : Addr → Prop) (ρ : Env) (n : Addr → Nat) (x : D) (ρ' : Env), R K cl F H x v ∧ SL K cl F H ρ σ n ∧ WF F H n ∧ g x lk ρ = some ρ' ∧ pN K cl F H n lk σ Q ρ'
def tGts (K : PySem.W.Frag) (cl : Nat → Addr) (lk : List Nat) (g : Gds) : TGs := fun vs σ H Q => ∃ (F : Addr → Prop) (ρ : Env) (n : Addr → Nat) (xs : List D) (ρ' : Env), RL K cl F H xs vs ∧ SL K cl F H ρ σ n ∧ WF F H n ∧ g xs lk ρ = some ρ' ∧ pN K cl F H n lk σ Q ρ'
def DG (C : Cf) (lk : List Nat) (tg : Expr) (g : Gd) : Prop := PG C.X tg (tGt C.X.K C.cl lk g)
def DGs (C : Cf) (lk : List Nat) (tgs : List Expr) (g : Gds) : Prop := PGs C.X tgs (tGts C.X.K C.cl lk g)
theorem PG.imp {X : Cx} {tg : Expr} {t t' : TG} (h : PG X tg t) (i : ∀ v σ H Q, t' v σ H Q → t v σ H Q) : PG X tg t' := ⟨fun pins s σ H v u Q I r q => h.run pins s σ H v u Q I r (i v σ H Q q)⟩
theorem PGs.imp {X : Cx} {tg : List Expr} {t t' : TGs} (h : PGs X tg t) (i : ∀ v σ H Q, t' v σ H Q → t v σ H Q) : PGs X tg t' := ⟨fun pins s σ H v u Q I r q => h.run pins s σ H v u Q I r (i v σ H Q q)⟩
def gnm (i : Nat) : Gd := fun x lk ρ => if i < ρ.length ∧ i ∉ lk then some (ρ.set i (some (.val x))) else none
theorem put_val {K : PySem.W.Frag} {cl : Nat → Addr} {F : Addr → Prop} {H : Hp} {n : Addr → Nat} {σ : L2.St} {ρ : Env} {Q : L2.St → Hp → Prop} {i : Nat} {x : D} {v : V} (q : pN K cl F H n lk σ Q (ρ.set i (some (.val x)))) (r : R K cl F H x v) (sl : SL K cl F H ρ σ n)
    (wf : WF F H n) (hi : i < ρ.length) (hk : i ∉ lk) : Q (σ.set i (some v)) H :=
  put_ok (m := fun _ => 0) q ⟨r, fun _ => rfl⟩ sl (wf.congr fun _ => by show 0 + _ = _; omega) (Ext.refl.congr (fun _ => rfl) fun _ => by show 0 + _ = _; omega) Lk.refl hi hk
theorem g_name {i : Nat} {x : Str} (hi : C.X.N[i]? = some x) (hx : Loc C.X.env.scope x) (hf : C.X.fn x = true ∨ C.X.env.scope.names.lookup x = some .local := by first | exact .inl rfl | exact .inr rfl) : DG C lk (.Name x pos) (gnm i) := by
  refine PG.imp (pg_name C.nd hi hx hf) fun v σ H Q ⟨F, ρ, n, y, ρ', r, sl, wf, e, q⟩ => ?_
  unfold gnm at e
  split at e
  · rename_i h
    cases e
    exact put_val q r sl wf h.1 h.2
  · cases e
def gsn : Gds := fun xs _ ρ => match xs with | [] => some ρ | _ => none
def gsc (g : Gd) (gs : Gds) : Gds := fun xs lk ρ => match xs with
  | [] => none
  | x :: r => match g x lk ρ with
    | none => none
    | some ρ' => gs r lk ρ'
theorem gs_nil : DGs C lk [] gsn := by
  refine PGs.imp pgs_nil fun v σ H Q ⟨F, ρ, n, xs, ρ', r, sl, wf, e, q⟩ => ?_
  unfold gsn at e
  split at e
  · cases e
    exact ⟨r, q σ F H n sl wf Ext.refl Lk.refl⟩
  · cases e
theorem gs_cons {tg : Expr} {tgs : List Expr} {g : Gd} {gs : Gds} (h : DG C lk tg g) (hr : DGs C lk tgs gs) (hs : (assignEach (tg :: tgs) C.X.env).map (·.2) = assign tg C.X.env :: (assignEach tgs C.X.env).map (·.2) := by rfl) : DGs C lk (tg :: tgs) (gsc g gs) := by
  refine PGs.imp (pgs_cons h hr hs) fun vs σ H Q ⟨F, ρ, n, xs, ρ', r, sl, wf, e, q⟩ => ?_
  unfold gsc at e
  split at e
  · cases e
  · rename_i x xr
    obtain ⟨v, us, ev, rx, rs⟩ := r
    cases h1 : g x lk ρ with
    | none => rw [h1] at e; cases e
    | some ρ1 =>
      rw [h1] at e
      refine ⟨v, us, ev, F, ρ, n, x, ρ1, rx, sl, wf, h1, ?_⟩
      intro σ1 F1 H1 n1 sl1 wf1 ex1 l1
      exact ⟨F1, ρ1, n1, xr, ρ', rs.ext wf ex1, sl1, wf1, e, q.step wf ex1 l1⟩
def gtp (k : Nat) (gs : Gds) : Gd := fun x lk ρ => match x with
  | .tup xs => if xs.length = k then gs xs lk ρ else none
  | _ => none
theorem g_tup {tgs : List Expr} {gs : Gds} {kk : Nat} {k : Nat} (h : DGs C lk tgs gs) (hn : (assignEach tgs C.X.env).length = k := by rfl) (hst : (assignEach tgs C.X.env).findIdx? (·.1) = none := by rfl) : DG C lk (.Tuple tgs kk pos) (gtp k gs) := by
  refine PG.imp (pg_tup C.calm h hn hst) fun v σ H Q ⟨F, ρ, n, x, ρ', r, sl, wf, e, q⟩ => ?_
  cases x with
  | tup xs =>
    obtain ⟨a, vs, rfl, ht, rl⟩ := r
    have e : (if xs.length = k then gs xs lk ρ else none) = some ρ' := e
    split at e
    · rename_i hk
      exact ⟨a, vs, rfl, ht.seq, by rw [rl.length]; exact hk, F, ρ, n, xs, ρ', rl, sl, wf, e, q⟩
    · cases e
  | _ => cases e
def sasg (g : Gd) (d : M D) : S := sbnd d fun x => fun lk ρ => (g x lk ρ).map fun ρ' => (.ok .nx, ρ')
theorem s_asg {tg : Expr} {g : Gd} {d : M D} (he : DE C e d) (hg : DG C lk tg g) (hs : swapsWithSole [tg] e pos.line C.X.env = pure false := by rfl) (hw : swappedStores [tg] e C.X.env = pure none := by rfl)
    (h1 : (assignEach [tg] C.X.env).map (·.2) = [assign tg C.X.env] := by rfl) : DS C lk (.Assign [tg] e pos) (sasg g d) := by
  refine PS.imp (ps_asg he hg hs hw h1) fun D σ H ⟨F, ρ, n, sl, wf, q⟩ => ⟨F, ρ, n, sl, wf, q.bnd.imp fun x ρ1 q => ?_⟩
  intro v F1 H1 n1 r sl1 wf1 ex1
  cases h : g x lk ρ1 with
  | none => rw [h] at q; exact q.elim
  | some ρ2 =>
    rw [h] at q
    have q : pN C.X.K C.cl F H n lk σ D.nx ρ2 := q
    exact ⟨F1, ρ1, n1, x, ρ2, r, sl1, wf1, h, q.step wf ex1 Lk.refl⟩
/-- a, b = x, y -/
def spar (i j : Nat) (d : M (List D)) : S := sbnd d fun xs => fun lk ρ => match xs with
  | [x, y] => if i < ρ.length ∧ j < ρ.length ∧ i ∉ lk ∧ j ∉ lk then some (.ok .nx, (ρ.set i (some (.val x))).set j (some (.val y))) else none
  | _ => none
theorem s_par {i j : Nat} {x y : Str} {ea eb : Expr} {da : M (List D)} {px py pt : Pos} {kt k2 pt2} (hi : C.X.N[i]? = some x) (hj : C.X.N[j]? = some y) (hij : i ≠ j)
    (hx : C.X.env.scope.names.lookup x = some .local) (hy : C.X.env.scope.names.lookup y = some .local) (ha : DA C [ea, eb] da)
    (hw : swappedStores [.Tuple [.Name x px, .Name y py] kt pt] (.Tuple [ea, eb] k2 pt2) C.X.env = pure (some [x, y]))
    (hs : swapsWithSole [.Tuple [.Name x px, .Name y py] kt pt] (.Tuple [ea, eb] k2 pt2) pos.line C.X.env = pure false := by rfl) :
    DS C lk (.Assign [.Tuple [.Name x px, .Name y py] kt pt] (.Tuple [ea, eb] k2 pt2) pos) (spar i j da) := by
  refine PS.imp (ps_par C.calm C.nd hi hj hij hx hy ha hw hs) fun D σ H ⟨F, ρ, n, sl, wf, q⟩ => ⟨F, ρ, n, sl, wf, q.bnd.imp fun xs ρ1 q => ?_⟩
  intro vs F1 H1 n1 rs sl1 wf1 ex1
  split at q
  · rename_i x y
    split at q
    · rename_i h
      obtain ⟨v, u, rfl, rv, ru⟩ := rs.two
      refine ⟨v, u, rfl, ?_⟩
      have q : pN C.X.K C.cl F H n lk σ D.nx ((ρ1.set i (some (.val x))).set j (some (.val y))) := q
      refine put_val (Q := fun σ' H' => D.nx (σ'.set j (some u)) H') (ρ := ρ1) (i := i) (x := x) ?_ rv sl1 wf1 h.1 h.2.2.1
      intro σ2 F2 H2 n2 sl2 wf2 ex2 l2
      exact put_val (q.step wf (ex1.trans wf ex2) l2) (ru.ext wf1 ex2) sl2 wf2 (by rw [List.length_set]; exact h.2.1) h.2.2.2
    · exact q.elim
  · exact q.elim
def giadd : D → D → Option D
  | .int a, .int b => some (.int (a + b))
  | _, _ => none
/-- x op= e, ints -/
def gaug (g : D → D → Option D) (i : Nat) (d : M D) : S := fun lk ρ => match ρ[i]? with
  | some (some (.val x)) => (sbnd d fun y => sbnd (lift (g x y)) fun z => sput i (.val z)) lk ρ
  | _ => none
theorem s_aug {i : Nat} {x : Str} {d : M D} (hi : C.X.N[i]? = some x) (hx : Loc C.X.env.scope x) (he : DE C e d) (hf : C.X.fn x = true ∨ C.X.env.scope.names.lookup x = some .local := by first | exact .inl rfl | exact .inr rfl) :
    DS C lk (.AugAssign (.Name x pos') .Add e pos) (gaug giadd i d) := by
  refine PS.imp (ps_aug C.nd hi hx he ip_add hf) fun D σ H ⟨F, ρ, n, sl, wf, q⟩ => ?_
  unfold gaug at q
  split at q
  · rename_i z hz
    obtain ⟨v, n1, n2, ev, ro, hn, _⟩ := SL.get sl hz
    refine ⟨v, ev, F, ρ, n, sl, wf, q.bnd.imp fun y ρ1 q => ?_⟩
    obtain ⟨w, ew, q⟩ := Mt_lift q.bnd
    intro u F1 H1 n1' ru sl1 wf1 ex1
    have rz : R C.X.K C.cl F1 H1 z v := ro.1.ext wf ex1
    unfold giadd at ew
    split at ew
    · cases ew
      cases ru
      cases rz
      refine ⟨_, _, rfl, rfl, ?_⟩
      unfold sput at q
      split at q
      · rename_i h
        exact put_ok (m := fun _ => 0) q ⟨rfl, fun _ => rfl⟩ sl1 (wf1.congr fun _ => by show 0 + _ = _; omega) (ex1.congr (fun _ => rfl) fun _ => by show 0 + _ = _; omega) Lk.refl h.1 h.2
      · exact q.elim
    · cases ew
  · exact q.elim
end
end KR

set_option Elab.async false
set_option linter.all false
set_option maxRecDepth 100000
set_option maxHeartbeats 2000000
/-! Rules: loops, comprehensions, stores. -/
namespace KR
open PySem L2 PyProof.Rows

/-! ### while -/
/-- k turns at most -/
def whileN (t : M Bool) (b : S) : Nat → S
  | 0 => fun _ _ => none
  | k + 1 => sbnd t fun c => if c = true then (fun lk ρ => match b lk ρ with
    | some (.ok .nx, ρ') => whileN t b k lk ρ'
    | some (.ok .ct, ρ') => whileN t b k lk ρ'
    | some (.ok .bk, ρ') => some (.ok .nx, ρ')
    | o => o) else skip
theorem whileN_more (t : M Bool) (b : S) : ∀ (k : Nat) (lk : List Nat) (ρ : Env) (r : Except XV Fl × Env), whileN t b k lk ρ = some r → whileN t b (k + 1) lk ρ = some r
  | 0, _, _, _, h => by cases h
  | k + 1, lk, ρ, r, h => by
    have ih := whileN_more t b k
    have h : sbnd t (fun c => if c = true then (fun lk ρ => match b lk ρ with
      | some (.ok .nx, ρ') => whileN t b k lk ρ'
      | some (.ok .ct, ρ') => whileN t b k lk ρ'
      | some (.ok .bk, ρ') => some (.ok .nx, ρ')
      | o => o) else skip) lk ρ = some r := h
    show sbnd t (fun c => if c = true then (fun lk ρ => match b lk ρ with
      | some (.ok .nx, ρ') => whileN t b (k + 1) lk ρ'
      | some (.ok .ct, ρ') => whileN t b (k + 1) lk ρ'
      | some (.ok .bk, ρ') => some (.ok .nx, ρ')
      | o => o) else skip) lk ρ = some r
    unfold sbnd at h ⊢
    cases e : t ρ with
    | none => rw [e] at h; cases h
    | some p =>
      obtain ⟨x, ρ'⟩ := p
      rw [e] at h
      cases x with
      | error x => exact h
      | ok c =>
        cases c with
        | false => exact h
        | true =>
          simp only [if_true] at h ⊢
          cases e2 : b lk ρ' with
          | none => rw [e2] at h; cases h
          | some p =>
            obtain ⟨y, ρ2⟩ := p
            rw [e2] at h
            cases y with
            | error x => exact h
            | ok f =>
              cases f with
              | nx => exact ih _ _ _ h
              | ct => exact ih _ _ _ h
              | bk => exact h
              | ret v => exact h
open Classical in
/-- as many turns as it takes -/
noncomputable def swhile (t : M Bool) (b : S) : S := fun lk ρ => if h : ∃ k r, whileN t b k lk ρ = some r then some h.choose_spec.choose else none
theorem swhile_spec {t : M Bool} {b : S} {lk : List Nat} {ρ : Env} {r : Except XV Fl × Env} (h : swhile t b lk ρ = some r) : ∃ k, whileN t b k lk ρ = some r := by
  unfold swhile at h
  split at h
  · rename_i hx
    cases h
    exact ⟨_, hx.choose_spec.choose_spec⟩
  · cases h
theorem whileN_add {t : M Bool} {b : S} {lk : List Nat} {ρ : Env} {r : Except XV Fl × Env} {k : Nat} (h : whileN t b k lk ρ = some r) : ∀ j, whileN t b (k + j) lk ρ = some r
  | 0 => h
  | j + 1 => whileN_more t b _ _ _ _ (whileN_add h j)
theorem swhile_of {t : M Bool} {b : S} {lk : List Nat} {ρ : Env} {r : Except XV Fl × Env} {k : Nat} (h : whileN t b k lk ρ = some r) : swhile t b lk ρ = some r := by
  have hx : ∃ k r, whileN t b k lk ρ = some r := ⟨k, r, h⟩
  unfold swhile
  rw [dif_pos hx]
  congr 1
  have h2 := hx.choose_spec.choose_spec
  have a := whileN_add h hx.choose
  have c := whileN_add h2 k
  rw [Nat.add_comm] at c
  rw [a] at c
  exact (Option.some.inj c).symm
section
variable {C : Cf} {lk : List Nat} {pos : Pos} {b : S}
theorem s_while {c : Expr} {body : List Stmt} {t : M Bool} (hc : DT C c t) (hb : DB C lk body b) : DS C lk (.While c body [] pos) (swhile t b) := by
  refine PS.imp (ps_while C.own hc hb) fun D σ H ⟨F, ρ, n, sl, wf, q⟩ => ?_
  cases hr : swhile t b lk ρ with
  | none => rw [hr] at q; exact q.elim
  | some r =>
    obtain ⟨k, hk⟩ := swhile_spec hr
    rw [hr, ← hk] at q
    refine ⟨fun k σ1 H1 => ∃ (F1 : Addr → Prop) (ρ1 : Env) (n1 : Addr → Nat), SL C.X.K C.cl F1 H1 ρ1 σ1 n1 ∧ WF F1 H1 n1 ∧ Ms C.X.K C.cl C.W F1 H1 n1 lk σ1 D (whileN t b k lk ρ1), ⟨k, F, ρ, n, sl, wf, q⟩, ?_⟩
    rintro k σ1 H1 ⟨F1, ρ1, n1, sl1, wf1, q1⟩
    cases k with
    | zero => exact q1.elim
    | succ k =>
      refine ⟨F1, ρ1, n1, sl1, wf1, (Ms.bnd q1).imp fun c ρ2 q2 => ?_⟩
      intro F2 H2 n2 sl2 wf2 ex2
      have q2 := Ms.step wf1 ex2 Lk.refl q2
      cases c with
      | false =>
        rw [if_neg Bool.false_ne_true]
        exact q2 σ1 F2 H2 n2 sl2 wf2 Ext.refl Lk.refl
      | true =>
        rw [if_pos rfl]
        rw [if_pos rfl] at q2
        refine ⟨fun σ' H' => ∃ (F1 : Addr → Prop) (ρ1 : Env) (n1 : Addr → Nat), SL C.X.K C.cl F1 H' ρ1 σ' n1 ∧ WF F1 H' n1 ∧ Ms C.X.K C.cl C.W F1 H' n1 lk σ' D (whileN t b k lk ρ1), fun σ' H' h => ⟨k, Nat.lt_succ_self _, h⟩, F2, ρ2, n2, sl2, wf2, ?_⟩
        unfold Ms
        cases e : b lk ρ2 with
        | none => rw [e] at q2; exact q2.elim
        | some p =>
          obtain ⟨r, ρ3⟩ := p
          rw [e] at q2
          cases r with
          | error x => exact q2
          | ok f =>
            cases f with
            | nx => exact fun σ' F' H' n' s w ex l => ⟨F', ρ3, n', s, w, Ms.step wf2 ex l q2⟩
            | ct => exact fun σ' F' H' n' s w ex l => ⟨F', ρ3, n', s, w, Ms.step wf2 ex l q2⟩
            | bk => exact q2
            | ret v => exact q2

/-! ### for -/
def forL (g : Gd) (b : S) : List D → S
  | [] => skip
  | x :: xs => fun lk ρ => match g x lk ρ with
    | none => none
    | some ρ1 => match b lk ρ1 with
      | some (.ok .nx, ρ') => forL g b xs lk ρ'
      | some (.ok .ct, ρ') => forL g b xs lk ρ'
      | some (.ok .bk, ρ') => some (.ok .nx, ρ')
      | o => o
def sfor (g : Gd) (it : M (List D)) (b : S) : S := sbnd it fun xs => forL g b xs
theorem s_for {tg iter : Expr} {body : List Stmt} {d : M (List D)} {g : Gd} (hi : DI C tg iter d) (hg : DG C lk tg g) (hb : DB C lk body b)
    (hs : ∀ x, foldedSetIterable iter C.X.env x = pure x := by intro _; rfl) : DS C lk (.For tg iter body [] pos) (sfor g d b) := by
  refine PS.imp (ps_for C.own C.calm hi hg hb hs) fun D σ H ⟨F, ρ, n, sl, wf, q⟩ => ⟨F, ρ, n, sl, wf, q.bnd.imp fun xs ρ0 q => ?_⟩
  intro J F0 H0 n0 w0 sl0 wf0 ex0
  have q0 := Ms.step wf ex0 Lk.refl q
  refine ⟨fun i k σ1 H1 => k = xs.length - i ∧ i ≤ xs.length ∧ ∃ (F1 : Addr → Prop) (ρ1 : Env) (n1 : Addr → Nat), Lat F0 H0 F1 H1 ∧ SL C.X.K C.cl F1 H1 ρ1 σ1 n1 ∧ WF F1 H1 n1 ∧ Ms C.X.K C.cl C.W F1 H1 n1 lk σ1 D (forL g b (xs.drop i) lk ρ1),
    ⟨xs.length, rfl, Nat.zero_le _, F0, ρ0, n0, ⟨fun _ h => h, fun _ _ => rfl⟩, sl0, wf0, q0⟩, ?_⟩
  rintro i k σ1 H1 ⟨rfl, hi', F1, ρ1, n1, l1, sl1, wf1, q1⟩
  by_cases hlt : i < xs.length
  · refine .inr ⟨w0.goes i F1 H1 n1 hlt l1 wf1, fun σ' H' => ∃ (F1 : Addr → Prop) (ρ1 : Env) (n1 : Addr → Nat), Lat F0 H0 F1 H' ∧ SL C.X.K C.cl F1 H' ρ1 σ' n1 ∧ WF F1 H' n1 ∧ Ms C.X.K C.cl C.W F1 H' n1 lk σ' D (forL g b (xs.drop (i + 1)) lk ρ1),
      fun σ' H' h => ⟨xs.length - (i + 1), by omega, rfl, hlt, h⟩, fun v H2 y => ?_⟩
    obtain ⟨d, F2, hd, rd, wf2, ex2, sm2⟩ := w0.yields i F1 H1 n1 v H2 hlt l1 wf1 y
    have hdrop : xs.drop i = d :: xs.drop (i + 1) := by
      rw [List.drop_eq_getElem_cons hlt]
      rw [List.getElem?_eq_getElem hlt] at hd
      rw [Option.some.inj hd]
    rw [hdrop] at q1
    have q1 := Ms.step wf1 ex2 Lk.refl q1
    have sl2 : SL C.X.K C.cl F2 H2 ρ1 σ1 n1 := sl1.mono ex2.fz (frame_eq wf1 ex2) fun a ha => by
      cases z : H1 a with
      | none => exact absurd z (wf1.ho a ha)
      | some o => exact sm2 a o z
    unfold forL at q1
    cases e : g d lk ρ1 with
    | none => rw [e] at q1; exact q1.elim
    | some ρ2 =>
      rw [e] at q1
      dsimp only at q1
      refine ⟨F2, ρ1, n1, d, ρ2, rd, sl2, wf2, e, ?_⟩
      intro σ3 F3 H3 n3 sl3 wf3 ex3 lk3
      have lat3 : Lat F0 H0 F3 H3 := by
        have e13 := ex2.trans wf1 ex3
        exact ⟨fun a h => e13.fz a (l1.1 a h), fun a h => (frame_eq wf1 e13 a (l1.1 a h)).trans (l1.2 a h)⟩
      have q3 := Ms.step wf2 ex3 lk3 q1
      refine ⟨F3, ρ2, n3, sl3, wf3, ?_⟩
      unfold Ms
      have key : ∀ {σ4 : L2.St} {F4 : Addr → Prop} {H4 : Hp} {n4 : Addr → Nat}, Ext F3 H3 n3 F4 H4 n4 → Lat F0 H0 F4 H4 := fun ex4 => ⟨fun a h => ex4.fz a (lat3.1 a h), fun a h => (frame_eq wf3 ex4 a (lat3.1 a h)).trans (lat3.2 a h)⟩
      cases e2 : b lk ρ2 with
      | none => rw [e2] at q3; exact q3.elim
      | some p =>
        obtain ⟨r, ρ3⟩ := p
        rw [e2] at q3
        cases r with
        | error x => exact q3
        | ok f =>
          cases f with
          | nx => exact fun σ' F' H' n' s w ex l => ⟨F', ρ3, n', key (σ4 := σ') ex, s, w, Ms.step wf3 ex l q3⟩
          | ct => exact fun σ' F' H' n' s w ex l => ⟨F', ρ3, n', key (σ4 := σ') ex, s, w, Ms.step wf3 ex l q3⟩
          | bk => exact q3
          | ret v => exact q3
  · have e : i = xs.length := by omega
    subst e
    rw [List.drop_length] at q1
    exact .inl ⟨w0.stops F1 H1 n1 l1 wf1, q1 σ1 F1 H1 n1 sl1 wf1 Ext.refl Lk.refl⟩
end
end KR

set_option Elab.async false
set_option linter.all false
set_option maxRecDepth 100000
set_option maxHeartbeats 2000000
/-! Rules: calls of defs, and a def by its body. -/
namespace KR
open PySem L2 PyProof.Rows

/-- a call's argument: what a name owns is lent (.inl: the name's place), all else is data -/
abbrev Ag := Sum Nat D
/-- what all the defs do: arguments to the answer, and the arguments behind -/
abbrev Cl := List RV → Option (Except XV RV × List RV)

section
variable (K : PySem.W.Frag) (cl : Nat → Addr) (F : Addr → Prop) (H : Hp) (σ : L2.St)
def RA : List Ag → List V → Prop
  | [], vs => vs = []
  | .inl i :: as, vs => ∃ v us, vs = v :: us ∧ σ[i]? = some (some v) ∧ RA as us
  | .inr d :: as, vs => ∃ v us, vs = v :: us ∧ R K cl F H d v ∧ RA as us
end
def takeA : List Ag → Env → Option (List RV × Env)
  | [], ρ => some ([], ρ)
  | .inl i :: as, ρ => match ρ[i]? with
    | some (some r) => match takeA as (ρ.set i none) with
      | some (rs, ρ') => some (r :: rs, ρ')
      | none => none
    | _ => none
  | .inr d :: as, ρ => match takeA as ρ with
    | some (rs, ρ') => some (.val d :: rs, ρ')
    | none => none
def putA : List Ag → List RV → Env → Env
  | .inl i :: as, r :: rs, ρ => putA as rs (ρ.set i (some r))
  | .inr _ :: as, _ :: rs, ρ => putA as rs ρ
  | _, _, ρ => ρ
def callD (f : Cl) (as : List Ag) : M RV := fun ρ =>
  match takeA as ρ with
  | none => none
  | some (rs, ρ1) => match f rs with
    | none => none
    | some (x, rs') => if rs'.length = rs.length then some (x, putA as rs' ρ1) else none

section
variable {K : PySem.W.Frag} {cl : Nat → Addr} {F F' : Addr → Prop} {H H' : Hp} {n n' m : Addr → Nat} {σ : L2.St} {ρ : Env}
theorem RA.ext {as : List Ag} : ∀ {vs : List V}, RA K cl F H σ as vs → WF F H n → Ext F H n F' H' n' → RA K cl F' H' σ as vs := by
  induction as with
  | nil => intro vs h _ _; exact h
  | cons a as ih =>
    intro vs h w e
    cases a with
    | inl i => obtain ⟨v, us, e1, e2, h⟩ := h; exact ⟨v, us, e1, e2, ih h w e⟩
    | inr d => obtain ⟨v, us, e1, e2, h⟩ := h; exact ⟨v, us, e1, e2.ext w e, ih h w e⟩
theorem take_ok : ∀ {as : List Ag} {vs : List V} {ρ ρ' : Env} {n : Addr → Nat} {rs : List RV}, RA K cl F H σ as vs → SL K cl F H ρ σ n → takeA as ρ = some (rs, ρ') →
    ∃ m n' : Addr → Nat, ROL K cl F H rs vs m ∧ SL K cl F H ρ' σ n' ∧ ∀ a, n a = m a + n' a
  | [], vs, ρ, ρ', n, rs, h, sl, e => by cases e; exact ⟨fun _ => 0, n, ⟨h, fun _ => rfl⟩, sl, fun a => by show n a = 0 + n a; omega⟩
  | .inl i :: as, vs, ρ, ρ', n, rs, ⟨v, us, e1, e2, h⟩, sl, e => by
    unfold takeA at e
    cases hi : ρ[i]? with
    | none => rw [hi] at e; cases e
    | some o =>
      cases o with
      | none => rw [hi] at e; cases e
      | some r =>
        rw [hi] at e
        dsimp only at e
        cases ht : takeA as (ρ.set i none) with
        | none => rw [ht] at e; cases e
        | some p =>
          obtain ⟨rs2, ρ2⟩ := p
          rw [ht] at e
          cases e
          obtain ⟨w, n1, n2, ew, ro, hn, put⟩ := SL.get sl hi
          rw [e2] at ew
          cases ew
          have s2 := put (F' := F) (H' := H) (r' := none) (s' := some v) (m := fun _ => 0) (fun _ h => h) (fun _ _ => rfl) (fun _ _ => rfl) (fun _ => rfl)
          have hset : σ.set i (some v) = σ := by
            obtain ⟨h1, h2⟩ := List.getElem?_eq_some_iff.mp e2
            rw [← h2]; exact List.set_getElem_self h1
          rw [hset] at s2
          obtain ⟨m, n', rl, s3, h3⟩ := take_ok h s2 ht
          exact ⟨fun a => n1 a + m a, n', ⟨v, us, n1, m, e1, ro, rl, fun _ => rfl⟩, s3, fun a => by have h4 : 0 + n2 a = m a + n' a := h3 a; have h5 := hn a; show n a = (n1 a + m a) + n' a; omega⟩
  | .inr d :: as, vs, ρ, ρ', n, rs, ⟨v, us, e1, e2, h⟩, sl, e => by
    unfold takeA at e
    cases ht : takeA as ρ with
    | none => rw [ht] at e; cases e
    | some p =>
      obtain ⟨rs2, ρ2⟩ := p
      rw [ht] at e
      cases e
      obtain ⟨m, n', rl, s3, h3⟩ := take_ok h sl ht
      exact ⟨m, n', ⟨v, us, fun _ => 0, m, e1, ⟨e2, fun _ => rfl⟩, rl, fun a => by show m a = 0 + m a; omega⟩, s3, h3⟩
theorem ROL.length : ∀ {rs : List RV} {vs : List V} {n : Addr → Nat}, ROL K cl F H rs vs n → vs.length = rs.length
  | [], _, _, h => by rw [h.1]; rfl
  | _ :: rs, _, _, ⟨_, us, _, _, e, _, h, _⟩ => by rw [e, List.length_cons, List.length_cons, ROL.length h]
theorem put_ok2 {as : List Ag} {vs : List V} {ρ : Env} {n m : Addr → Nat} {rs : List RV} (h : RA K cl F H σ as vs) (sl : SL K cl F H ρ σ n) (rl : ROL K cl F' H' rs vs m) (hf : ∀ a, F a → F' a) (hh : ∀ a, F a → H' a = H a) (hn : ∀ a, n a ≠ 0 → H' a = H a) (hl : ∀ (i : Nat), Sum.inl i ∈ as → i < ρ.length) :
    ∃ n' : Addr → Nat, SL K cl F' H' (putA as rs ρ) σ n' ∧ ∀ a, n' a ≤ m a + n a := by
  have sl' := SL.mono hf hh hn sl
  clear hn sl
  induction as generalizing vs ρ n m rs with
  | nil => exact ⟨n, by cases rs <;> exact sl', fun a => by omega⟩
  | cons a as ih =>
    cases rs with
    | nil =>
      have e := rl.length
      cases a with
      | inl i => obtain ⟨v, us, e1, _⟩ := h; rw [e1] at e; cases e
      | inr d => obtain ⟨v, us, e1, _⟩ := h; rw [e1] at e; cases e
    | cons r rs =>
      obtain ⟨u, us', m1, m2, eu, ro, rl, hm⟩ := rl
      cases a with
      | inl i =>
        obtain ⟨v, us, e1, e2, h⟩ := h
        rw [e1] at eu
        obtain ⟨rfl, rfl⟩ := List.cons.inj eu
        obtain ⟨n2, hn2, put⟩ := SL.put (i := i) sl' (hl i List.mem_cons_self)
        have s2 := put (r' := some r) (s' := some v) (m := m1) ⟨v, rfl, ro⟩
        have hset : σ.set i (some v) = σ := by
          obtain ⟨h1, h2⟩ := List.getElem?_eq_some_iff.mp e2
          rw [← h2]; exact List.set_getElem_self h1
        rw [hset] at s2
        obtain ⟨n', s3, h3⟩ := ih h rl (fun j hj => by rw [List.length_set]; exact hl j (List.mem_cons_of_mem _ hj)) s2
        exact ⟨n', s3, fun a => by have h4 : n' a ≤ m2 a + (m1 a + n2 a) := h3 a; have h5 := hm a; have h6 := hn2 a; omega⟩
      | inr d =>
        obtain ⟨v, us, e1, e2, h⟩ := h
        rw [e1] at eu
        obtain ⟨rfl, rfl⟩ := List.cons.inj eu
        obtain ⟨n', s3, h3⟩ := ih h rl (fun j hj => hl j (List.mem_cons_of_mem _ hj)) sl'
        exact ⟨n', s3, fun a => by have h4 := h3 a; have h5 := hm a; omega⟩
theorem take_lt : ∀ {as : List Ag} {ρ ρ' : Env} {rs : List RV}, takeA as ρ = some (rs, ρ') → ρ'.length = ρ.length ∧ ∀ (i : Nat), Sum.inl i ∈ as → i < ρ.length
  | [], ρ, ρ', rs, e => by cases e; exact ⟨rfl, fun i h => by cases h⟩
  | .inl i :: as, ρ, ρ', rs, e => by
    unfold takeA at e
    cases hi : ρ[i]? with
    | none => rw [hi] at e; cases e
    | some o =>
      cases o with
      | none => rw [hi] at e; cases e
      | some r =>
        rw [hi] at e
        dsimp only at e
        cases ht : takeA as (ρ.set i none) with
        | none => rw [ht] at e; cases e
        | some p =>
          obtain ⟨rs2, ρ2⟩ := p
          rw [ht] at e
          cases e
          obtain ⟨h1, h2⟩ := take_lt ht
          rw [List.length_set] at h1 h2
          refine ⟨h1, fun j hj => ?_⟩
          rcases List.mem_cons.mp hj with z | z
          · cases z; exact (List.getElem?_eq_some_iff.mp hi).1
          · exact h2 j z
  | .inr d :: as, ρ, ρ', rs, e => by
    unfold takeA at e
    cases ht : takeA as ρ with
    | none => rw [ht] at e; cases e
    | some p =>
      obtain ⟨rs2, ρ2⟩ := p
      rw [ht] at e
      cases e
      obtain ⟨h1, h2⟩ := take_lt ht
      refine ⟨h1, fun j hj => ?_⟩
      rcases List.mem_cons.mp hj with z | z
      · cases z
      · exact h2 j z
end

/-- a def's promise, by what it does -/
def spD (K : PySem.W.Frag) (cl : Nat → Addr) (np : Nat) (f : Cl) : Sp := fun vs H Q E => ∃ (F : Addr → Prop) (rs : List RV) (n : Addr → Nat), ROL K cl F H rs vs n ∧ WF F H n ∧ rs.length = np ∧
  match f rs with
  | none => False
  | some (.ok r, rs') => ∀ (v : V) (F' : Addr → Prop) (H' : Hp) (m n' : Addr → Nat), RO K cl F' H' r v m → ROL K cl F' H' rs' vs n' → WF F' H' (fun a => m a + n' a) → Ext F H n F' H' (fun a => m a + n' a) → Q v H'
  | some (.error x, rs') => ∀ (c : Value) (dx : Option Addr) (F' : Addr → Prop) (H' : Hp) (n' : Addr → Nat), RX K cl F' H' x c dx → ROL K cl F' H' rs' vs n' → WF F' H' n' → Ext F H n F' H' n' → E c dx H'

/-- arguments, some lent -/
def pC (K : PySem.W.Frag) (cl : Nat → Addr) (F : Addr → Prop) (H : Hp) (n : Addr → Nat) (σ : L2.St) (Q : List V → Hp → Prop) : List Ag → Env → Prop := fun as ρ' =>
  ∀ (vs : List V) (F' : Addr → Prop) (H' : Hp) (n' : Addr → Nat), RA K cl F' H' σ as vs → SL K cl F' H' ρ' σ n' → WF F' H' n' → Ext F H n F' H' n' → Q vs H'
def tC' (K : PySem.W.Frag) (cl : Nat → Addr) (W : WX) (d : M (List Ag)) : TA := fun σ H Q => ∃ (F : Addr → Prop) (ρ : Env) (n : Addr → Nat), SL K cl F H ρ σ n ∧ WF F H n ∧ Mt K cl W F H n σ (d ρ) (pC K cl F H n σ Q)
def DC (C : Cf) (es : List Expr) (d : M (List Ag)) : Prop := PA C.X es (tC' C.X.K C.cl C.W d)
theorem pC.step {K : PySem.W.Frag} {cl : Nat → Addr} {F F' : Addr → Prop} {H H' : Hp} {n n' : Addr → Nat} {σ : L2.St} {Q : List V → Hp → Prop} {x : List Ag} {ρ' : Env} (w : WF F H n) (e : Ext F H n F' H' n') (h : pC K cl F H n σ Q x ρ') : pC K cl F' H' n' σ Q x ρ' :=
  fun v F2 H2 n2 r s wf ex => h v F2 H2 n2 r s wf (e.trans w ex)
def cval (d : M D) (ds : M (List Ag)) : M (List Ag) := bnd d fun x => bnd ds fun xs => ret (.inr x :: xs)
def clend (i : Nat) (ds : M (List Ag)) : M (List Ag) := fun ρ => match ρ[i]? with
  | some (some _) => (bnd ds fun xs => ret (.inl i :: xs)) ρ
  | _ => none
section
variable {C : Cf} {a : Expr} {da : M D} {pos : Pos} {es : List Expr} {ds : M (List Ag)}
theorem c_nil : DC C [] (ret []) := PA.imp pa_nil fun σ H Q ⟨F, ρ, n, sl, wf, q⟩ => q [] F H n rfl sl wf Ext.refl
theorem c_val (ha : DE C a da) (hr : DC C es ds) (hs : starEach (a :: es) C.X.env = (false, eval a C.X.env) :: starEach es C.X.env := by rfl) : DC C (a :: es) (cval da ds) := by
  refine PA.imp (pa_cons ha hr hs) fun σ H Q ⟨F, ρ, n, sl, wf, q⟩ => ⟨F, ρ, n, sl, wf, q.bnd.imp fun x ρ1 q => ?_⟩
  intro v F1 H1 n1 rx sl1 wf1 ex1
  refine ⟨F1, ρ1, n1, sl1, wf1, q.bnd.step wf ex1 fun xs ρ2 q => ?_⟩
  intro vs F2 H2 n2 rs sl2 wf2 ex2
  exact q (v :: vs) F2 H2 n2 ⟨v, vs, rfl, rx.ext wf1 ex2, rs⟩ sl2 wf2 (ex1.trans wf ex2)
theorem c_lend {i : Nat} (ha : PE C.X a (tVar i)) (hr : DC C es ds) (hs : starEach (a :: es) C.X.env = (false, eval a C.X.env) :: starEach es C.X.env := by rfl) : DC C (a :: es) (clend i ds) := by
  refine PA.imp (pa_cons ha hr hs) fun σ H Q ⟨F, ρ, n, sl, wf, q⟩ => ?_
  unfold clend at q
  split at q
  · rename_i r hi
    obtain ⟨v, n1, n2, ev, _⟩ := SL.get sl hi
    refine ⟨v, ev, F, ρ, n, sl, wf, q.bnd.imp fun xs ρ2 q => ?_⟩
    intro vs F2 H2 n2 rs sl2 wf2 ex2
    exact q (v :: vs) F2 H2 n2 ⟨v, vs, rfl, ev, rs⟩ sl2 wf2 ex2
  · exact q.elim

/-- behind the arguments, the def's own promise -/
theorem call_imp {f : Cl} {np : Nat} {σ : L2.St} {H : Hp} {Q : VK} {vs : List V} {F : Addr → Prop} {n : Addr → Nat} {ρ : Env} {as : List Ag} (q : Mt C.X.K C.cl C.W F H n σ (callD f as ρ) (pO C.X.K C.cl F H n σ Q)) (ra : RA C.X.K C.cl F H σ as vs)
    (sl : SL C.X.K C.cl F H ρ σ n) (wf : WF F H n) (hl : as.length = np) : spD C.X.K C.cl np f vs H Q (fun c d H => C.W c d σ H) := by
  unfold callD at q
  cases ht : takeA as ρ with
  | none => rw [ht] at q; exact q.elim
  | some p =>
    obtain ⟨rs, ρ1⟩ := p
    rw [ht] at q
    dsimp only at q
    obtain ⟨m, n1, rl, s1, hn⟩ := take_ok ra sl ht
    obtain ⟨hlen, hlt⟩ := take_lt ht
    have wm : WF F H (fun a => m a + n1 a) := wf.congr fun a => (hn a).symm
    have w0 : WF F H m := wm.sub fun a => by omega
    have lr : rs.length = np := by
      rw [← rl.length]
      clear q rl ht
      induction as generalizing vs np with
      | nil => rw [show vs = [] from ra]; simpa using hl
      | cons a as ih =>
        cases a with
        | inl i => obtain ⟨v, us, e1, _, h⟩ := ra; rw [e1, List.length_cons]; have := ih (np := as.length) h rfl (fun j hj => hlt j (List.mem_cons_of_mem _ hj)); rw [this, ← hl, List.length_cons]
        | inr d => obtain ⟨v, us, e1, _, h⟩ := ra; rw [e1, List.length_cons]; have := ih (np := as.length) h rfl (fun j hj => hlt j (List.mem_cons_of_mem _ hj)); rw [this, ← hl, List.length_cons]
    refine ⟨F, rs, m, rl, w0, lr, ?_⟩
    cases hf : f rs with
    | none => rw [hf] at q; exact q.elim
    | some p =>
      obtain ⟨x, rs'⟩ := p
      rw [hf] at q
      dsimp only at q
      -- what others own is as it was
      have keep : ∀ {F' : Addr → Prop} {H' : Hp} {k : Addr → Nat}, Ext F H m F' H' k → (∀ a, F a → H' a = H a) ∧ ∀ a, n1 a ≠ 0 → H' a = H a := fun {F' H' k} ex => by
        refine ⟨frame_eq w0 ex, fun a ha => ?_⟩
        have h0 : m a = 0 := by have := wm.le a; omega
        cases z : H a with
        | none => exact absurd z (wm.ho a (by omega))
        | some o => exact ex.frame a o z h0
      have around : ∀ {F' : Addr → Prop} {H' : Hp} {k : Addr → Nat}, Ext F H m F' H' k → WF F' H' k → WF F' H' (fun a => k a + n1 a) ∧ Ext F H n F' H' (fun a => k a + n1 a) := fun {F' H' k} ex w => ⟨wm.more ex w, (ex.more wm).congr (fun a => hn a) fun a => rfl⟩
      by_cases hk : rs'.length = rs.length
      · rw [if_pos hk] at q
        cases x with
        | error x =>
          intro c dx F' H' n' rx rl' w' ex
          obtain ⟨k1, k2⟩ := keep ex
          obtain ⟨n2, s2, h2⟩ := put_ok2 ra s1 rl' ex.fz k1 k2 (fun i hi => by rw [hlen]; exact hlt i hi)
          obtain ⟨w2, e2⟩ := around ex w'
          exact q c dx F' H' n2 rx s2 (w2.sub h2) (e2.sub h2)
        | ok r =>
          intro v F' H' m' n' ro rl' w' ex
          obtain ⟨k1, k2⟩ := keep ex
          obtain ⟨n2, s2, h2⟩ := put_ok2 ra s1 rl' ex.fz k1 k2 (fun i hi => by rw [hlen]; exact hlt i hi)
          obtain ⟨w2, e2⟩ := around ex w'
          have hle : ∀ a, m' a + n2 a ≤ (m' a + n' a) + n1 a := fun a => by have := h2 a; omega
          exact q v F' H' m' n2 ro s2 (w2.sub hle) (e2.sub hle)
      · rw [if_neg hk] at q
        exact q.elim
def ocall (f : Cl) (np : Nat) (das : M (List Ag)) : M RV := bnd das fun as => if as.length = np then callD f as else stuck
theorem ocall_imp {f : Cl} {np : Nat} {σ : L2.St} {H : Hp} {Q : VK} (h : tO C.X.K C.cl C.W (ocall f np ds) σ H Q) : tC' C.X.K C.cl C.W ds σ H (fun vs H1 => spD C.X.K C.cl np f vs H1 Q (fun c d H => C.W c d σ H)) := by
  obtain ⟨F, ρ, n, sl, wf, q⟩ := h
  refine ⟨F, ρ, n, sl, wf, q.bnd.imp fun as ρ1 q => ?_⟩
  intro vs F1 H1 n1 ra sl1 wf1 ex1
  by_cases hl : as.length = np
  · rw [if_pos hl] at q
    exact call_imp (Mt.step wf ex1 q fun a ρ' q => q.step wf ex1) ra sl1 wf1 hl
  · rw [if_neg hl] at q
    exact q.elim
theorem o_call {f : Cl} {ps : List Str} {k np : Nat} {fa : Addr} {fd : FuncData} {x : Str} {p : Pos} (G : FnOk C.X.prog C.X.w C.X.K C.X.mg C.X.base C.CX k fa fd ps (spD C.X.K C.cl np f)) (hr : k ≤ C.k) (hg : Gl C.X x) (hm : C.X.mg x = some (.ref fa))
    (hk : PySem.W.keepIn C.X.K (.ref fa) = true) (hb : Binds C.X.K fd ps []) (ha : DC C (a :: es) ds) (hdb : (x == ("__debug__" : Str)) = false := by decide) (he : starEach (a :: es) C.X.env = (false, eval a C.X.env) :: starEach es C.X.env := by rfl)
    (hpl : (backTo pos (starEach es C.X.env)).any (·.1) = false := by rfl) : DO C (.Call (.Name x p) (a :: es) [] pos) (ocall f np ds) := by
  refine PE.imp (pe_callSD (dvs := []) (ds := []) G (C.room.mono hr) hg hm hk hb .nil C.pass ha hdb he hpl) fun σ H Q h => ?_
  have h2 := ocall_imp h
  show tC' C.X.K C.cl C.W ds σ H _
  obtain ⟨F, ρ, n, sl, wf, q⟩ := h2
  refine ⟨F, ρ, n, sl, wf, q.imp fun as ρ' q => ?_⟩
  intro vs F1 H1 n1 ra sl1 wf1 ex1
  have q2 := q vs F1 H1 n1 ra sl1 wf1 ex1
  rw [List.append_nil]
  exact q2
end

/-! ### a def by its body -/
def isVal : RV → Bool
  | .val _ => true
  | .otup _ => true
  | _ => false
/-- the places of what is lent -/
def lockOf : Nat → List RV → List Nat
  | _, [] => []
  | i, r :: rs => if isVal r = true then lockOf (i + 1) rs else i :: lockOf (i + 1) rs
/-- what is lent, given back -/
def backs : Nat → List RV → Env → Option (List RV)
  | _, [], _ => some []
  | i, r :: rs, ρ => match backs (i + 1) rs ρ with
    | none => none
    | some bs => if isVal r = true then some (r :: bs) else match ρ[i]? with
      | some (some b) => some (b :: bs)
      | _ => none
def runD (np N : Nat) (body : S) : Cl := fun rs =>
  if rs.length = np ∧ np ≤ N then
    match body (lockOf 0 rs) (rs.map some ++ List.replicate (N - np) none) with
    | some (.ok .nx, ρ') => (backs 0 rs ρ').map fun bs => (.ok (.val .non), bs)
    | some (.ok (.ret r), ρ') => (backs 0 rs ρ').map fun bs => (.ok r, bs)
    | some (.error x, ρ') => (backs 0 rs ρ').map fun bs => (.error x, bs)
    | _ => none
  else none
section
variable {K : PySem.W.Frag} {cl : Nat → Addr} {F F' : Addr → Prop} {H H' : Hp} {n n' m : Addr → Nat} {σ : L2.St} {ρ : Env}
theorem start_ok : ∀ {rs : List RV} {vs : List V} {n : Addr → Nat} (k : Nat), ROL K cl F H rs vs n → SL K cl F H (rs.map some ++ List.replicate k none) (vs.map some ++ List.replicate k none) n
  | [], vs, n, k, ⟨e, hz⟩ => by
    rw [e]
    show SL K cl F H (List.replicate k none) (List.replicate k none) n
    induction k with
    | zero => exact ⟨rfl, hz⟩
    | succ k ih => exact ⟨none, _, fun _ => 0, n, rfl, fun _ => rfl, ih, fun a => by show n a = 0 + n a; omega⟩
  | r :: rs, vs, n, k, ⟨v, us, n1, n2, e, ro, rl, hn⟩ => by
    rw [e]
    exact ⟨some v, _, n1, n2, rfl, ⟨v, rfl, ro⟩, start_ok k rl, hn⟩
theorem SL.tail {i : Nat} {N : Addr → Nat} (h : SL K cl F H (ρ.drop i) (σ.drop i) N) : ∃ N1 N2 : Addr → Nat, SL K cl F H (ρ.drop (i + 1)) (σ.drop (i + 1)) N2 ∧ (∀ a, N a = N1 a + N2 a) ∧ ∀ r, ρ[i]? = some (some r) → ∃ v, σ[i]? = some (some v) ∧ RO K cl F H r v N1 := by
  by_cases hi : i < ρ.length
  · have e := List.drop_eq_getElem_cons hi
    rw [e] at h
    obtain ⟨s, us, n1, n2, es, sq, ss, hn⟩ := h
    have e2 : σ.drop (i + 1) = us := by
      rw [← List.drop_drop (i := 1) (j := i), es]
      rfl
    have e3 : σ[i]? = some s := by
      have z : (σ.drop i)[0]? = some s := by rw [es]; rfl
      rw [List.getElem?_drop] at z
      simpa using z
    refine ⟨n1, n2, by rw [e2]; exact ss, hn, fun r hr => ?_⟩
    rw [List.getElem?_eq_getElem hi] at hr
    rw [Option.some.inj hr] at sq
    obtain ⟨v, ev, ro⟩ := sq
    exact ⟨v, by rw [e3, ev], ro⟩
  · have e : ρ.drop i = [] := List.drop_eq_nil_of_le (by omega)
    have e' : ρ.drop (i + 1) = [] := List.drop_eq_nil_of_le (by omega)
    rw [e] at h
    refine ⟨fun _ => 0, N, ?_, fun a => by show N a = 0 + N a; omega, fun r hr => ?_⟩
    · rw [e']
      refine ⟨?_, h.2⟩
      rw [← List.drop_drop (i := 1) (j := i), h.1]
      rfl
    · rw [List.getElem?_eq_none (by omega)] at hr
      cases hr
/-- what was lent lies where it lay -/
theorem backs_ok (hf : ∀ a, F a → F' a) (hh : ∀ a, F a → H' a = H a) : ∀ {rs : List RV} {vs : List V} {n0 : Addr → Nat} {i : Nat} {bs : List RV} {N : Addr → Nat}, ROL K cl F H rs vs n0 → backs i rs ρ = some bs → SL K cl F' H' (ρ.drop i) (σ.drop i) N →
    (∀ (k : Nat) (r : RV) (v : V), rs[k]? = some r → isVal r = false → vs[k]? = some v → σ[i + k]? = some (some v)) → ∃ m : Addr → Nat, ROL K cl F' H' bs vs m ∧ ∀ a, m a ≤ N a
  | [], vs, n0, i, bs, N, h, e, sl, hv => by cases e; exact ⟨fun _ => 0, ⟨h.1, fun _ => rfl⟩, fun _ => Nat.zero_le _⟩
  | r :: rs, vs, n0, i, bs, N, ⟨v, us, n1, n2, ev, ro, rl, hn⟩, e, sl, hv => by
    subst ev
    unfold backs at e
    cases hb : backs (i + 1) rs ρ with
    | none => rw [hb] at e; cases e
    | some bs2 =>
      rw [hb] at e
      dsimp only at e
      obtain ⟨N1, N2, s2, hN, hr⟩ := SL.tail sl
      obtain ⟨m2, rl2, hm2⟩ := backs_ok hf hh (i := i + 1) rl hb s2 (fun k r' v' h1 h2 h3 => by
        have z := hv (k + 1) r' v' (by simpa using h1) h2 (by simpa using h3)
        have e1 : i + (k + 1) = i + 1 + k := by omega
        rw [← e1]; exact z)
      cases hq : isVal r with
      | true =>
        rw [hq, if_pos rfl] at e
        cases e
        cases r with
        | val d => exact ⟨m2, ⟨v, us, fun _ => 0, m2, rfl, ⟨R.mono hf hh d ro.1, fun _ => rfl⟩, rl2, fun a => by show m2 a = 0 + m2 a; omega⟩, fun a => by have := hm2 a; have := hN a; omega⟩
        | otup ds => exact ⟨m2, ⟨v, us, fun _ => 0, m2, rfl, RO.mono hf hh (.otup ds) (fun a z => absurd rfl z) ⟨ro.1, fun _ => rfl⟩, rl2, fun a => by show m2 a = 0 + m2 a; omega⟩, fun a => by have := hm2 a; have := hN a; omega⟩
        | _ => cases hq
      | false =>
        rw [hq, if_neg Bool.false_ne_true] at e
        split at e
        · rename_i b hb2
          cases e
          obtain ⟨v', ev', ro'⟩ := hr b hb2
          have z := hv 0 r v rfl hq rfl
          rw [Nat.add_zero, ev'] at z
          cases z
          exact ⟨fun a => N1 a + m2 a, ⟨v, us, N1, m2, rfl, ro', rl2, fun _ => rfl⟩, fun a => by have := hm2 a; have := hN a; show N1 a + m2 a ≤ N a; omega⟩
        · cases e
theorem lockOf_mem : ∀ {rs : List RV} {i k : Nat} {r : RV}, rs[k]? = some r → isVal r = false → i + k ∈ lockOf i rs
  | [], _, _, _, h, _ => by simp at h
  | r0 :: rs, i, 0, r, h, hq => by
    simp at h
    subst h
    unfold lockOf
    rw [hq, if_neg Bool.false_ne_true]
    exact List.mem_cons_self
  | r0 :: rs, i, k + 1, r, h, hq => by
    have z := lockOf_mem (i := i + 1) (k := k) (by simpa using h) hq
    have e : i + 1 + k = i + (k + 1) := by omega
    rw [e] at z
    unfold lockOf
    split
    · exact z
    · exact List.mem_cons_of_mem _ z
end

section
variable {P : Program} {w : World} {K : PySem.W.Frag} {mg : Str → Option Value} {base : Heap}
/-- the context of a def's body, as a frame of ours -/
def cfOf (cl : Nat → Addr) (k : Nat) (N ps : List Str) (qual : Str) (scope : Scope) (f : Addr) (cd : Value) (A : Around) (outer : List PySem.Env) (s : Shared) (H : Hp) (E : XK) (S : FnScope N ps scope) (hr : Room k (A.deeper (envOfC qual scope s.heap.objs.size f cd))) : Cf where
  X := cxOf (L2.CX P w) P w K mg base N qual scope f cd A outer s H E
  cl := cl
  W := fun c d _ H => E c d H
  k := k
  CX := L2.CX P w
  room := hr
  calm := rfl
  nd := S.nd
  pass := fun σ pins H' s' e s'' I h => passes_call (W := fun c d _ H => E c d H) (takes_of rfl rfl rfl rfl) (fun _ _ _ _ h => h) pins σ H' s' e s'' I h
  cxF := fun outer H s e s' h => by
    obtain ⟨_, _, _, _, _, _, _, _, _, _, _, _, z⟩ := h
    exact z
  own := passes_of rfl
theorem def_ok {cl : Nat → Addr} {x qual : Str} {st : Stmt} {f : Addr} {fd : FuncData} {N ps : List Str} {k : Nat} {body : S} (Fn : Fun K x qual st f fd) (Sc : FnScope N ps (defScope st))
    (hb : ∀ (cd : Value) (A : Around) (outer : List PySem.Env) (s : Shared) (H : Hp) (E : XK) (lk : List Nat) (hr : Room k (A.deeper (envOfC qual (defScope st) s.heap.objs.size f cd))), DB (cfOf (P := P) (w := w) (K := K) (mg := mg) (base := base) cl k N ps qual (defScope st) f cd A outer s H E Sc hr) lk (defBody st) body) :
    FnOk P w K mg base (L2.CX P w) (k + 1) f fd ps (spD K cl ps.length (runD ps.length N.length body)) := by
  refine Fn.okX Sc (fun vs H Q E h => ?_) (fun cd A outer s H vs Q E hr h => ?_)
  · obtain ⟨F, rs, n, rl, _, hl, _⟩ := h
    rw [rl.length, hl]
  · obtain ⟨F, rs, n, rl, wf, hl, q⟩ := h
    refine ⟨_, hb cd A outer s H E (lockOf 0 rs) hr, ?_⟩
    have hvl := rl.length
    unfold runD at q
    by_cases hc : rs.length = ps.length ∧ ps.length ≤ N.length
    · rw [if_pos hc] at q
      have s0 := start_ok (N.length - ps.length) rl
      have e0 : L2.start N vs = vs.map some ++ List.replicate (N.length - ps.length) none := by unfold L2.start; rw [hvl, hl]
      show tS K cl (fun c d _ H => E c d H) (lockOf 0 rs) body _ (L2.start N vs) H
      rw [e0]
      refine ⟨F, _, n, s0, wf, ?_⟩
      have hv : ∀ {σ' : L2.St}, Lk (lockOf 0 rs) (vs.map some ++ List.replicate (N.length - ps.length) none) σ' → ∀ (k : Nat) (r : RV) (v : V), rs[k]? = some r → isVal r = false → vs[k]? = some v → σ'[0 + k]? = some (some v) := fun {σ'} l k r v h1 h2 h3 => by
        rw [l (0 + k) (lockOf_mem h1 h2), Nat.zero_add]
        have hk : k < vs.length := (List.getElem?_eq_some_iff.mp h3).1
        rw [List.getElem?_append_left (by simpa using hk), List.getElem?_map, h3]
        rfl
      unfold Ms
      cases hr2 : body (lockOf 0 rs) (rs.map some ++ List.replicate (N.length - ps.length) none) with
      | none => rw [hr2] at q; exact q.elim
      | some p =>
        obtain ⟨r, ρ'⟩ := p
        rw [hr2] at q
        cases r with
        | error x =>
          dsimp only at q
          cases hb2 : backs 0 rs ρ' with
          | none => rw [hb2] at q; exact q.elim
          | some bs =>
            rw [hb2] at q
            intro c dx σ' F' H' n' rx sl' w' ex l
            obtain ⟨m, rl2, hm⟩ := backs_ok ex.fz (frame_eq wf ex) rl hb2 (by simpa using sl') (hv l)
            exact q c dx F' H' m rx rl2 (w'.sub hm) (ex.sub hm)
        | ok fl =>
          cases fl with
          | nx =>
            dsimp only at q
            cases hb2 : backs 0 rs ρ' with
            | none => rw [hb2] at q; exact q.elim
            | some bs =>
              rw [hb2] at q
              intro σ' F' H' n' sl' w' ex l
              obtain ⟨m, rl2, hm⟩ := backs_ok ex.fz (frame_eq wf ex) rl hb2 (by simpa using sl') (hv l)
              exact q .non F' H' (fun _ => 0) m ⟨rfl, fun _ => rfl⟩ rl2 ((w'.sub hm).congr fun _ => by show 0 + _ = _; omega) ((ex.sub hm).congr (fun _ => rfl) fun _ => by show 0 + _ = _; omega)
          | bk => exact q.elim
          | ct => exact q.elim
          | ret r =>
            dsimp only at q
            cases hb2 : backs 0 rs ρ' with
            | none => rw [hb2] at q; exact q.elim
            | some bs =>
              rw [hb2] at q
              intro v σ' F' H' m n' ro sl' w' ex l
              obtain ⟨m2, rl2, hm⟩ := backs_ok ex.fz (frame_eq (n' := fun a => m a + n' a) wf ex) rl hb2 (by simpa using sl') (hv l)
              have hle : ∀ a, m a + m2 a ≤ m a + n' a := fun a => by have := hm a; omega
              exact q v F' H' m m2 ro rl2 (w'.sub hle) (ex.sub hle)
    · rw [if_neg hc] at q
      exact q.elim
/-- no turn is left -/
theorem none_ok {cl : Nat → Addr} {f : Addr} {fd : FuncData} {ps : List Str} {k : Nat} {CX : CXT} : FnOk P w K mg base CX k f fd ps (spD K cl ps.length fun _ => none) :=
  ⟨fun vs H Q E ⟨_, _, _, _, _, _, q⟩ => q.elim, fun A outer s H args us vs Q E hr e0 hb r ⟨_, _, _, _, _, _, q⟩ => q.elim⟩
end
end KR

set_option Elab.async false
set_option linter.all false
set_option maxRecDepth 100000
set_option maxHeartbeats 2000000
/-! Rules: isinstance, stores into lists, append, list comprehensions, bit_length. -/
namespace KR
open PySem L2 PyProof.Rows

/-! ### isinstance of built-in types -/
inductive Ty where
  | bool | int | str | tuple | list | dict
def Ty.nm : Ty → String
  | .bool => "bool"
  | .int => "int"
  | .str => "str"
  | .tuple => "tuple"
  | .list => "list"
  | .dict => "dict"
def tyD : D → Option String
  | .non => some "NoneType"
  | .bl _ => some "bool"
  | .int _ => some "int"
  | .str _ => some "str"
  | .tup _ => some "tuple"
  | .lst _ => some "list"
  | .lsr _ => some "list"
  | .dct _ _ => some "dict"
  | .ins _ _ _ => none
def gisi (T : Ty) (x : D) : Option D :=
  match x with
  | .non => some (.bl false)
  | .bl _ => some (.bl (match T with | .bool => true | .int => true | _ => false))
  | .int _ => some (.bl (match T with | .int => true | _ => false))
  | .str _ => some (.bl (match T with | .str => true | _ => false))
  | .tup _ => some (.bl (match T with | .tuple => true | _ => false))
  | .lst _ => some (.bl (match T with | .list => true | _ => false))
  | .lsr _ => some (.bl (match T with | .list => true | _ => false))
  | .dct _ _ => some (.bl (match T with | .dict => true | _ => false))
  | .ins _ _ _ => none
theorem gisi_kit {T : Ty} {x z : D} (h : gisi T x = some z) : ∃ t b, tyD x = some t ∧ z = .bl b ∧ kitB t T.nm = some b := by
  cases x with
  | ins _ _ _ => cases h
  | non => cases T <;> cases h <;> exact ⟨_, _, rfl, rfl, by decide +kernel⟩
  | bl _ => cases T <;> cases h <;> exact ⟨_, _, rfl, rfl, by decide +kernel⟩
  | int _ => cases T <;> cases h <;> exact ⟨_, _, rfl, rfl, by decide +kernel⟩
  | str _ => cases T <;> cases h <;> exact ⟨_, _, rfl, rfl, by decide +kernel⟩
  | tup _ => cases T <;> cases h <;> exact ⟨_, _, rfl, rfl, by decide +kernel⟩
  | lst _ => cases T <;> cases h <;> exact ⟨_, _, rfl, rfl, by decide +kernel⟩
  | lsr _ => cases T <;> cases h <;> exact ⟨_, _, rfl, rfl, by decide +kernel⟩
  | dct _ _ => cases T <;> cases h <;> exact ⟨_, _, rfl, rfl, by decide +kernel⟩
theorem tyX_of {K : PySem.W.Frag} {cl : Nat → Addr} {F : Addr → Prop} {H : Hp} {x : D} {v : V} {t : String} (r : R K cl F H x v) (h : tyD x = some t) : TyX K H v (.type t) := by
  cases x with
  | non => cases r; cases h; exact .base .non
  | bl b => cases r; cases h; exact .base (.bl b)
  | int b => cases r; cases h; exact .base (.int b)
  | str b => cases r; cases h; exact .base (.str b)
  | tup xs =>
    obtain ⟨a, vs, rfl, ht, _⟩ := r
    cases h
    rcases ht with ⟨_, h | ⟨o, h⟩⟩ | ⟨o, its, k, h1, h2, _⟩
    · exact .base (.tup h)
    · exact .fTuple h
    · exact .kTuple h1 h2
  | lst xs =>
    obtain ⟨a, vs, rfl, _, ht, _⟩ := r
    cases h
    exact .base (.lst ht)
  | lsr xs =>
    obtain ⟨a, vs, rfl, ht, _⟩ := r
    cases h
    rcases ht with ⟨_, h | ⟨o, h⟩⟩ | ⟨o, its, k, h1, h2, _⟩
    · exact .base (.lst h)
    · exact .base (.frz h)
    · exact .kList h1 h2
  | dct ks ds =>
    obtain ⟨a, kvs, rfl, _, ht, _⟩ := r
    cases h
    exact .base (.dK ht)
  | ins _ _ _ => cases h
section
variable {C : Cf} {e : Expr} {d : M D} {pos p tp : Pos}
theorem e_isi (T : Ty) {x tn : Str} (hx : x = "isinstance") (hg : Gl C.X x) (hm : C.X.mg x = none) (hv : bootBuiltins x = some (.builtin "isinstance")) (he : DE C e d) (hg2 : Gl C.X tn) (hm2 : C.X.mg tn = none) (hv2 : bootBuiltins tn = some (.type T.nm))
    (hs : starEach [e, .Name tn tp] C.X.env = (false, eval e C.X.env) :: starEach [.Name tn tp] C.X.env := by rfl) (hpl : (backTo pos (starEach [.Name tn tp] C.X.env)).any (·.1) = false := by rfl)
    (hs2 : starEach [.Name tn tp] C.X.env = (false, eval (.Name tn tp) C.X.env) :: starEach [] C.X.env := by rfl) (hn : x ≠ "__name__" := by decide) (hdb : (x == ("__debug__" : Str)) = false := by decide) (hn2 : tn ≠ "__name__" := by decide) (hdb2 : (tn == ("__debug__" : Str)) = false := by decide) :
    DE C (.Call (.Name x p) [e, .Name tn tp] [] pos) (una (gisi T) d) := by
  have pe2 : PE C.X (.Name tn tp) (tC (.ty T.nm)) := pe_bltn hg2 hm2 hv2 rfl hn2 hdb2
  refine PE.imp (pe_callB call_isi hg hm hv (pa_cons he (pa_cons pe2 pa_nil hs2) hs) hn hdb hs hpl) fun σ H Q ⟨F, ρ, n, sl, wf, q⟩ => ⟨F, ρ, n, sl, wf, q.bnd.imp fun x ρ1 q => ?_⟩
  obtain ⟨z, ez, q⟩ := Mt_lift q
  intro v F1 H1 n1 rx sl1 wf1 ex1
  obtain ⟨t, b, h1, rfl, h3⟩ := gisi_kit ez
  exact ⟨v, .ty T.nm, .type t, .type T.nm, b, rfl, .ty _, tyX_of rx h1, kit_ty h3, q _ F1 H1 n1 rfl sl1 wf1 ex1⟩
end

/-! ### what a name owns is written -/
section
variable {K : PySem.W.Frag} {cl : Nat → Addr} {F : Addr → Prop} {H : Hp} {n : Addr → Nat} {σ : L2.St} {ρ : Env} {i : Nat}
theorem own_write {r r' : RV} {a : Addr} {o : HO} (sl : SL K cl F H ρ σ n) (wf : WF F H n) (hi : ρ[i]? = some (some r)) (ha : ∀ v n1, RO K cl F H r v n1 → n1 a ≠ 0) (hv : ∃ o, H a = some o)
    (hr : ∀ v n1, RO K cl F H r v n1 → (∀ b, n1 b ≠ 0 → b ≠ a → upd H a o b = H b) → (∀ b, F b → upd H a o b = H b) → RO K cl F (upd H a o) r' v n1) :
    SL K cl F (upd H a o) (ρ.set i (some r')) σ n ∧ WF F (upd H a o) n ∧ Ext F H n F (upd H a o) n := by
  obtain ⟨v, n1, n2, ev, ro, hn, put⟩ := SL.get sl hi
  have h1 := ha v n1 ro
  have hle := wf.le a
  have hna := hn a
  have hf : ∀ b, F b → upd H a o b = H b := fun b hb => upd_ne fun e => wf.nf a (by omega) (e ▸ hb)
  have hset : σ.set i (some v) = σ := by
    obtain ⟨q1, q2⟩ := List.getElem?_eq_some_iff.mp ev
    rw [← q2]; exact List.set_getElem_self q1
  have s2 := put (F' := F) (H' := upd H a o) (r' := some r') (s' := some v) (m := n1) (fun _ h => h) hf (fun b hb => upd_ne fun e => by rw [e] at hb; omega) ⟨v, rfl, hr v n1 ro (fun b _ hb => upd_ne hb) hf⟩
  rw [hset] at s2
  have hn' : (fun a => n1 a + n2 a) = n := funext fun b => (hn b).symm
  rw [hn'] at s2
  refine ⟨s2, ⟨wf.le, wf.nf, fun b hb => ?_, fun b hb => by rw [hf b hb]; exact wf.hf b hb⟩, ⟨fun b u hu hb => ?_, fun b hb => ?_, fun _ h => h, fun b hb => .inl hb, fun b hb => .inl hb⟩⟩
  · by_cases e : b = a
    · rw [e, upd_same]; simp
    · rw [upd_ne e]; exact wf.ho b hb
  · rw [upd_ne fun e => by rw [e] at hb; omega]; exact hu
  · by_cases e : b = a
    · rw [e, upd_same]; simp
    · rw [upd_ne e]; exact hb
theorem own_list {xs : List D} (sl : SL K cl F H ρ σ n) (hi : ρ[i]? = some (some (.olst xs))) : ∃ a vs, σ[i]? = some (some (.ref a)) ∧ H a = some (.lst vs) ∧ RL K cl F H xs vs := by
  obtain ⟨v, n1, n2, ev, ro, hn, put⟩ := SL.get sl hi
  obtain ⟨a, vs, rfl, h, rl, _⟩ := ro
  exact ⟨a, vs, ev, h, rl⟩
/-- a list of a name's own gets other items -/
theorem list_write {xs ys : List D} {a : Addr} {vs ws : List V} (sl : SL K cl F H ρ σ n) (wf : WF F H n) (hi : ρ[i]? = some (some (.olst xs))) (ev : σ[i]? = some (some (.ref a))) (h : H a = some (.lst vs)) (rl : RL K cl F H ys ws) :
    SL K cl F (upd H a (.lst ws)) (ρ.set i (some (.olst ys))) σ n ∧ WF F (upd H a (.lst ws)) n ∧ Ext F H n F (upd H a (.lst ws)) n := by
  obtain ⟨v0, m1, m2, ev0, ro0, _, _⟩ := SL.get sl hi
  rw [ev] at ev0
  cases ev0
  have hu : ∀ v n1, RO K cl F H (.olst xs) v n1 → ∃ b, v = .ref b ∧ n1 b ≠ 0 := fun v n1 ro => by
    obtain ⟨b, us, e, _, _, z⟩ := ro
    exact ⟨b, e, by rw [z b]; simp [one]⟩
  -- the name's own address is a
  obtain ⟨v, n1, n2, ev2, ro, hn, put⟩ := SL.get sl hi
  rw [ev] at ev2
  cases ev2
  obtain ⟨b, us, e, hb, rl0, z⟩ := ro
  cases e
  have h1 : n1 a ≠ 0 := by rw [z a]; simp [one]
  have hle := wf.le a
  have hna := hn a
  have hf : ∀ b, F b → upd H a (.lst ws) b = H b := fun b hb => upd_ne fun e => wf.nf a (by omega) (e ▸ hb)
  have hset : σ.set i (some (.ref a)) = σ := by
    obtain ⟨q1, q2⟩ := List.getElem?_eq_some_iff.mp ev
    rw [← q2]; exact List.set_getElem_self q1
  have s2 := put (F' := F) (H' := upd H a (.lst ws)) (r' := some (.olst ys)) (s' := some (.ref a)) (m := n1) (fun _ h => h) hf (fun b hb => upd_ne fun e => by rw [e] at hb; omega) ⟨.ref a, rfl, a, ws, rfl, upd_same, RL.mono (fun _ h => h) hf ys rl, z⟩
  rw [hset] at s2
  have hn' : (fun a => n1 a + n2 a) = n := funext fun b => (hn b).symm
  rw [hn'] at s2
  refine ⟨s2, ⟨wf.le, wf.nf, fun b hb => ?_, fun b hb => by rw [hf b hb]; exact wf.hf b hb⟩, ⟨fun b u hu hb => ?_, fun b hb => ?_, fun _ h => h, fun b hb => .inl hb, fun b hb => .inl hb⟩⟩
  · by_cases e : b = a
    · rw [e, upd_same]; simp
    · rw [upd_ne e]; exact wf.ho b hb
  · rw [upd_ne fun e => by rw [e] at hb; omega]; exact hu
  · by_cases e : b = a
    · rw [e, upd_same]; simp
    · rw [upd_ne e]; exact hb
end
/-- x.append(e) -/
def apnd (i : Nat) (d : M D) : M D := fun ρ => match ρ[i]? with
  | some (some (.olst _)) => (bnd d fun x => fun ρ => match ρ[i]? with
    | some (some (.olst xs)) => if xs.length < sizeLine then some (.ok .non, ρ.set i (some (.olst (xs ++ [x])))) else none
    | _ => none) ρ
  | _ => none
/-- x[k] = e -/
def seti (i : Nat) (k d : M D) : S := sbnd d fun x => fun lk ρ => match ρ[i]? with
  | some (some (.olst _)) => (sbnd k fun j => fun _ ρ => match ρ[i]?, j with
    | some (some (.olst xs)), .int z => match ixN xs.length z with
      | some m => some (.ok .nx, ρ.set i (some (.olst (xs.set m x))))
      | none => none
    | _, _ => none) lk ρ
  | _ => none
section
variable {C : Cf} {o e k : Expr} {d dk : M D} {pos p apos spos : Pos} {i : Nat} {lk : List Nat}
theorem e_append (ho : PE C.X o (tVar i)) (ha : DE C e d)
    (hbase : attributeBase o "append" C.X.env (eval o C.X.env) = eval o C.X.env := by rfl)
    (hfew : ((backTo pos (starEach [e] C.X.env)).all (fun x => !x.1) && (backToKw pos (keywordEach [] C.X.env)).all (fun x => x.1.isSome)
      && decide (([e] : List Expr).length + ([] : List Keyword).length + (if ([] : List Keyword).isEmpty then 0 else 1) < 30)) = true := by rfl)
    (hline : (apos.endLine == pos.line) = true := by rfl) (hs : starEach [e] C.X.env = (false, eval e C.X.env) :: starEach [] C.X.env := by rfl) (hplain : (backTo pos (starEach [] C.X.env)).any (·.1) = false := by rfl) :
    DE C (.Call (.Attribute o "append" apos) [e] [] pos) (apnd i d) := by
  refine PE.imp (pe_bm PySem.F.plainAttrs_list PySem.F.slot_list_append PySem.F.type_list_append mt_append ho (pa_cons ha pa_nil hs) hbase hfew hline hs hplain) fun σ H Q ⟨F, ρ, n, sl, wf, q⟩ => ?_
  unfold apnd at q
  split at q
  · rename_i xs0 h0
    obtain ⟨a, vs0, ev, hv0, rl0⟩ := own_list sl h0
    refine ⟨.ref a, ev, .inl ⟨rfl, vs0, SqL.of hv0⟩, F, ρ, n, sl, wf, q.bnd.imp fun x ρ1 q => ?_⟩
    intro v F1 H1 n1 rx sl1 wf1 ex1
    show rAppend _ _ _ _
    split at q
    · rename_i xs h1
      obtain ⟨a', vs, ev', hv, rl⟩ := own_list sl1 h1
      rw [ev] at ev'
      cases ev'
      split at q
      · rename_i hz
        refine ⟨a, vs, v, rfl, rfl, hv, by rw [rl.length]; exact hz, ?_⟩
        obtain ⟨s2, w2, e2⟩ := list_write sl1 wf1 h1 ev hv (rl.append (show RL C.X.K C.cl F1 H1 [x] [v] from ⟨v, [], rfl, rx, rfl⟩))
        have q : pD C.X.K C.cl F H n σ Q .non _ := q
        exact q .non F1 _ n1 rfl s2 w2 (ex1.trans wf e2)
      · exact q.elim
    · exact q.elim
  · exact q.elim
theorem s_seti (ho : PE C.X o (tVar i)) (hk : DE C k dk) (he : DE C e d) (hs : swapsWithSole [.Subscript o k spos] e pos.line C.X.env = pure false := by rfl) (hw : swappedStores [.Subscript o k spos] e C.X.env = pure none := by rfl)
    (h1 : (assignEach [.Subscript o k spos] C.X.env).map (·.2) = [assign (.Subscript o k spos) C.X.env] := by rfl)
    (ha : ∀ v, assign (.Subscript o k spos) C.X.env v = (do
      let ov ← holding [v] (eval o C.X.env)
      let iv ← holding [v, ov] (eval k C.X.env)
      standAt spos
      holding [v, ov, iv] (setItem ov iv v)
      release [v, ov, iv] []) := by intro _; rfl) : DS C lk (.Assign [.Subscript o k spos] e pos) (seti i dk d) := by
  refine PS.imp (ps_asg he (pg_sub ho hk set_list ha) hs hw h1) fun D σ H ⟨F, ρ, n, sl, wf, q⟩ => ⟨F, ρ, n, sl, wf, (Ms.bnd q).imp fun x ρ1 q => ?_⟩
  intro v F1 H1 n1 rx sl1 wf1 ex1
  have q := Ms.step wf ex1 Lk.refl q
  split at q
  · rename_i xs0 h0
    obtain ⟨a, vs0, ev, hv0, rl0⟩ := own_list sl1 h0
    refine ⟨.ref a, ev, F1, ρ1, n1, sl1, wf1, (Ms.bnd q).imp fun j ρ2 q => ?_⟩
    intro jv F2 H2 n2 rj sl2 wf2 ex2
    split at q
    · rename_i xs z h2
      split at q
      · rename_i m hm
        obtain ⟨a', vs, ev', hv, rl⟩ := own_list sl2 h2
        rw [ev] at ev'
        cases ev'
        cases rj
        refine ⟨a, vs, z, m, rfl, rfl, hv, by rw [rl.length]; exact hm, ?_⟩
        obtain ⟨s3, w3, e3⟩ := list_write sl2 wf2 h2 ev hv (rl.set m (rx.ext wf1 ex2))
        have q : pN C.X.K C.cl F1 H1 n1 lk σ D.nx _ := q
        exact q σ F2 _ n2 s3 w3 (ex2.trans wf1 e3) Lk.refl
      · exact q.elim
    · exact q.elim
  · exact q.elim
end
end KR

set_option Elab.async false
set_option linter.all false
set_option maxRecDepth 100000
set_option maxHeartbeats 2000000
/-! Rules: list comprehensions. -/
namespace KR
open PySem L2 PyProof.Rows

/-- the comprehension's own names are unset -/
def wipeE (ρ : Env) : List Nat → Env
  | [] => ρ
  | v :: vs => (wipeE ρ vs).set v none
/-- and set again as they were -/
def restE (ρ2 ρ : Env) : List Nat → Env
  | [] => ρ2
  | v :: vs => (restE ρ2 ρ vs).set v (ρ.getD v none)
def plainS : Option (Option RV) → Bool
  | some none => true
  | some (some (.val _)) => true
  | _ => false
/-- nothing of its own names is owned -/
def okW (ρ : Env) (vs : List Nat) : Bool := vs.all fun v => plainS ρ[v]?
/-- the other places -/
def oth (n : Nat) (vs : List Nat) : List Nat := (List.range n).filter fun i => !vs.contains i
def compL (g : Gd) (t : M Bool) (elt : M D) (vs : List Nat) (N : Nat) : List D → List D → Env → Option (List D × Env)
  | [], acc, ρ => some (acc, ρ)
  | x :: xs, acc, ρ => match g x (oth N vs) ρ with
    | none => none
    | some ρ1 => if ρ1.length = N then (match t ρ1 with
      | some (.ok true, ρ2) => match elt ρ2 with
        | some (.ok y, ρ3) => if okW ρ3 vs = true then compL g t elt vs N xs (acc ++ [y]) (wipeE ρ3 vs) else none
        | _ => none
      | some (.ok false, ρ2) => if okW ρ2 vs = true then compL g t elt vs N xs acc (wipeE ρ2 vs) else none
      | _ => none) else none
def lcomp (vs : List Nat) (it : M (List D)) (g : Gd) (t : M Bool) (elt : M D) : M RV := bnd it fun xs => fun ρ =>
  if okW ρ vs = true ∧ xs.length ≤ sizeLine then
    match compL g t elt vs ρ.length xs [] (wipeE ρ vs) with
    | some (ys, ρ2) => if okW ρ2 vs = true then some (.ok (.olst ys), restE ρ2 ρ vs) else none
    | none => none
  else none

section
variable {K : PySem.W.Frag} {cl : Nat → Addr} {F F' : Addr → Prop} {H H' : Hp} {n n' m : Addr → Nat} {σ σ2 : L2.St} {ρ ρ2 : Env} {vs : List Nat}
/-- a plain place gets another plain thing -/
theorem SL.plain : ∀ {rs : List (Option RV)} {ss : List (Option V)} {n : Addr → Nat} {i : Nat} {r : Option RV} {s : Option V}, SL K cl F H rs ss n → plainS rs[i]? = true → SLOT K cl F H r s (fun _ => 0) → SL K cl F H (rs.set i r) (ss.set i s) n
  | [], _, _, _, _, _, _, e, _ => by simp [plainS] at e
  | r0 :: rs, _, n, 0, r, s, ⟨s0, us, n1, n2, e1, q, qs, z⟩, e, k => by
    have h0 : ∀ a, n1 a = 0 := by
      simp at e
      cases r0 with
      | none => exact q
      | some rv =>
        obtain ⟨v, _, ro⟩ := q
        cases rv with
        | val d => exact ro.2
        | _ => cases e
    rw [e1]
    exact ⟨s, us, fun _ => 0, n2, rfl, k, qs, fun a => by rw [z a, h0 a]⟩
  | r0 :: rs, _, n, i + 1, r, s, ⟨s0, us, n1, n2, e1, q, qs, z⟩, e, k => by
    rw [e1]
    exact ⟨s0, _, n1, n2, rfl, q, SL.plain qs (by simpa using e) k, z⟩
theorem wipeE_length : ∀ vs, (wipeE ρ vs).length = ρ.length
  | [] => rfl
  | v :: vs => by unfold wipeE; rw [List.length_set, wipeE_length vs]
theorem plain_set {r : Option RV} {i j : Nat} (h : plainS ρ[i]? = true) (hr : plainS (some r) = true) : plainS (ρ.set j r)[i]? = true := by
  by_cases e : j = i
  · subst e
    have hi : j < ρ.length := by
      refine Decidable.byContradiction fun z => ?_
      rw [List.getElem?_eq_none (by omega)] at h
      cases h
    rw [List.getElem?_set_self hi]
    exact hr
  · rw [List.getElem?_set_ne e]
    exact h
theorem wipeE_plain : ∀ (vs : List Nat) {i : Nat}, plainS ρ[i]? = true → plainS (wipeE ρ vs)[i]? = true
  | [], _, h => h
  | v :: vs, i, h => plain_set (wipeE_plain vs h) rfl
theorem SL.wipe : ∀ {vs : List Nat}, SL K cl F H ρ σ n → okW ρ vs = true → SL K cl F H (wipeE ρ vs) (wipe σ vs) n
  | [], s, _ => s
  | v :: vs, s, h => by
    unfold okW at h
    rw [List.all_cons, Bool.and_eq_true] at h
    exact SL.plain (SL.wipe s h.2) (wipeE_plain vs h.1) fun _ => rfl
theorem wipe_get : ∀ (vs : List Nat) (i : Nat), i ∉ vs → (wipe σ vs)[i]? = σ[i]?
  | [], _, _ => rfl
  | v :: vs, i, h => by
    unfold wipe
    rw [List.getElem?_set_ne (fun e => h (by rw [e]; exact List.mem_cons_self)), wipe_get vs i fun z => h (List.mem_cons_of_mem _ z)]
theorem wipe_in : ∀ (vs : List Nat) (i : Nat), i ∈ vs → i < σ.length → (wipe σ vs)[i]? = some none
  | v :: vs, i, h, hi => by
    unfold wipe
    by_cases e : v = i
    · subst e
      rw [List.getElem?_set_self (by rw [wipe_length]; exact hi)]
    · rw [List.getElem?_set_ne e]
      rcases List.mem_cons.mp h with z | z
      · exact absurd z.symm e
      · exact wipe_in vs i z hi
theorem wipe_eq (hl : σ2.length = σ.length) (h : ∀ i, i ∉ vs → i < σ.length → σ2[i]? = σ[i]?) : wipe σ2 vs = wipe σ vs := by
  apply List.ext_getElem?
  intro i
  by_cases hi : i < σ.length
  · by_cases hv : i ∈ vs
    · rw [wipe_in vs i hv hi, wipe_in vs i hv (by rw [hl]; exact hi)]
    · rw [wipe_get vs i hv, wipe_get vs i hv, h i hv hi]
  · rw [List.getElem?_eq_none (by rw [wipe_length]; omega), List.getElem?_eq_none (by rw [wipe_length]; omega)]
def restS (σ2 σ : L2.St) : List Nat → L2.St
  | [] => σ2
  | v :: vs => (restS σ2 σ vs).set v (σ.getD v none)
theorem restS_length : ∀ vs, (restS σ2 σ vs).length = σ2.length
  | [] => rfl
  | v :: vs => by unfold restS; rw [List.length_set, restS_length vs]
theorem restS_out : ∀ (vs : List Nat) (i : Nat), i ∉ vs → (restS σ2 σ vs)[i]? = σ2[i]?
  | [], _, _ => rfl
  | v :: vs, i, h => by
    unfold restS
    rw [List.getElem?_set_ne (fun e => h (by rw [e]; exact List.mem_cons_self)), restS_out vs i fun z => h (List.mem_cons_of_mem _ z)]
theorem restS_in : ∀ (vs : List Nat) (i : Nat), i ∈ vs → i < σ2.length → (restS σ2 σ vs)[i]? = some (σ.getD i none)
  | v :: vs, i, h, hi => by
    unfold restS
    by_cases e : v = i
    · subst e
      rw [List.getElem?_set_self (by rw [restS_length]; exact hi)]
    · rw [List.getElem?_set_ne e]
      rcases List.mem_cons.mp h with z | z
      · exact absurd z.symm e
      · exact restS_in vs i z hi
theorem restS_wipe : restS (wipe σ vs) σ vs = σ := by
  apply List.ext_getElem?
  intro i
  by_cases hi : i < σ.length
  · by_cases hv : i ∈ vs
    · rw [restS_in vs i hv (by rw [wipe_length]; exact hi)]
      simp [hi]
    · rw [restS_out vs i hv, wipe_get vs i hv]
  · rw [List.getElem?_eq_none (by rw [restS_length, wipe_length]; omega), List.getElem?_eq_none (by omega)]
theorem SL.slot : ∀ {rs : List (Option RV)} {ss : List (Option V)} {n : Addr → Nat} {i : Nat}, SL K cl F H rs ss n → plainS rs[i]? = true → SLOT K cl F H (rs.getD i none) (ss.getD i none) (fun _ => 0)
  | [], _, _, _, _, e => by simp [plainS] at e
  | r0 :: rs, _, n, 0, ⟨s0, us, n1, n2, e1, q, qs, z⟩, e => by
    simp at e
    rw [e1]
    cases r0 with
    | none => exact fun _ => rfl
    | some rv =>
      obtain ⟨v, ev, ro⟩ := q
      cases rv with
      | val d => exact ⟨v, ev, ro.1, fun _ => rfl⟩
      | _ => cases e
  | r0 :: rs, _, n, i + 1, ⟨s0, us, n1, n2, e1, q, qs, z⟩, e => by
    rw [e1]
    simpa using SL.slot qs (by simpa using e)
theorem SLOT.mono {r : Option RV} {s : Option V} (hf : ∀ a, F a → F' a) (hh : ∀ a, F a → H' a = H a) (h : SLOT K cl F H r s (fun _ => 0)) : SLOT K cl F' H' r s (fun _ => 0) := by
  cases r with
  | none => exact h
  | some rv =>
    obtain ⟨v, ev, ro⟩ := h
    exact ⟨v, ev, RO.mono hf hh rv (fun a z => absurd rfl z) ro⟩
theorem restE_plain : ∀ (vs : List Nat) {i : Nat}, okW ρ vs = true → plainS ρ2[i]? = true → plainS (restE ρ2 ρ vs)[i]? = true
  | [], _, _, h => h
  | v :: vs, i, ho, h => by
    unfold okW at ho
    rw [List.all_cons, Bool.and_eq_true] at ho
    refine plain_set (restE_plain vs ho.2 h) ?_
    have z := ho.1
    cases e : ρ[v]? with
    | none => rw [e] at z; cases z
    | some o =>
      rw [e] at z
      have : ρ.getD v none = o := by rw [List.getD_eq_getElem?_getD, e]; rfl
      rw [this]
      exact z
theorem SL.rest : ∀ {vs : List Nat}, SL K cl F H ρ2 σ2 n → okW ρ2 vs = true → okW ρ vs = true → (∀ v ∈ vs, SLOT K cl F H (ρ.getD v none) (σ.getD v none) (fun _ => 0)) → SL K cl F H (restE ρ2 ρ vs) (restS σ2 σ vs) n
  | [], s, _, _, _ => s
  | v :: vs, s, h2, h, k => by
    have h' := h
    unfold okW at h h2
    rw [List.all_cons, Bool.and_eq_true] at h h2
    exact SL.plain (SL.rest s h2.2 h.2 fun x hx => k x (List.mem_cons_of_mem _ hx)) (restE_plain vs h.2 h2.1) (k v List.mem_cons_self)
theorem okW_wipe (h : okW ρ vs = true) : okW (wipeE ρ vs) vs = true := by
  unfold okW at h ⊢
  rw [List.all_eq_true] at h ⊢
  exact fun v hv => wipeE_plain vs (h v hv)
end

/-- what is owned beside a part of the way stays -/
theorem beside {K : PySem.W.Frag} {cl : Nat → Addr} {F F' : Addr → Prop} {H H' : Hp} {n n' : Addr → Nat} {p : Addr} {o : HO} (w : WF F H (fun a => one p a + n a)) (ex : Ext F H n F' H' n') (w' : WF F' H' n') (h : H p = some o) :
    WF F' H' (fun a => one p a + n' a) ∧ Ext F H (fun a => one p a + n a) F' H' (fun a => one p a + n' a) ∧ H' p = some o := by
  have w2 : WF F H (fun a => n a + one p a) := w.congr fun a => Nat.add_comm _ _
  refine ⟨(w2.more ex w').congr fun a => Nat.add_comm _ _, (ex.more w2).congr (fun a => Nat.add_comm _ _) fun a => Nat.add_comm _ _, ex.frame p o h ?_⟩
  have := w.le p
  unfold one at this
  rw [if_pos rfl] at this
  omega

/-- a comprehension's block -/
def Cf.blk (C : Cf) (s : Shared) (H : Hp) (scope : Scope) (cenv : PySem.Env) (fp : List Addr) : Cf where
  X := C.X.blk s H scope cenv fp
  cl := C.cl
  W := fun _ _ _ _ => False
  k := C.k
  CX := C.CX
  room := C.room
  calm := C.calm
  nd := C.nd
  pass := fun σ pins H' s' e s'' I h => (C.cxF _ _ _ _ _ h).elim
  cxF := C.cxF
  own := PassesOwn.never
section
variable {C : Cf} {elt tg iter : Expr} {ifs : List Expr} {scope : Scope} {own : List (Str × Nat)} {pos spos py : Pos} {d : M (List D)} {g : Gd} {t : M Bool} {de : M D} {lk : List Nat}
/-- what the block's parts denote -/
structure Blk (C : Cf) (elt tg iter : Expr) (ifs : List Expr) (scope : Scope) (own : List (Str × Nat)) (g : Gd) (t : M Bool) (de : M D) : Prop where
  ok : BlkOk C.X.N C.X.env.scope scope own
  tg : ∀ (s : Shared) (H : Hp) (L : Addr) (cls : List (Str × Addr)) (fp : List Addr) (lk : List Nat), DG (C.blk s H scope (compEnvC scope cls L C.X.env) fp) lk tg g
  tt : ∀ (s : Shared) (H : Hp) (L : Addr) (cls : List (Str × Addr)) (fp : List Addr), PTs (C.X.blk s H scope (compEnvC scope cls L C.X.env) fp) ifs (tT C.X.K C.cl (fun _ _ _ _ => False) t)
  el : ∀ (s : Shared) (H : Hp) (L : Addr) (cls : List (Str × Addr)) (fp : List Addr), DE (C.blk s H scope (compEnvC scope cls L C.X.env) fp) elt de
theorem lc_imp {σ : L2.St} {H : Hp} {Q : VK} {N : Nat} (hN : N = σ.length) (h : tO C.X.K C.cl C.W (lcomp (own.map (·.2)) d g t de) σ H Q) :
    tLc (tI C.X.K C.cl C.W d) (tGt C.X.K C.cl (oth N (own.map (·.2))) g) (tT C.X.K C.cl (fun _ _ _ _ => False) t) (tE C.X.K C.cl (fun _ _ _ _ => False) de) (own.map (·.2)) σ H Q := by
  obtain ⟨F, ρ, n, sl, wf, q⟩ := h
  refine ⟨F, ρ, n, sl, wf, q.bnd.imp fun xs ρ0 q => ?_⟩
  intro J F0 H0 n0 w0 sl0 wf0 ex0 Dl hD
  generalize hvs : own.map (·.2) = vs at q ⊢
  have q := Mt.step wf ex0 q (P' := pO C.X.K C.cl F0 H0 n0 σ Q) fun a ρ' q => q.step wf ex0
  by_cases hok : okW ρ0 vs = true ∧ xs.length ≤ sizeLine
  · rw [if_pos hok] at q
    have hlen := SL.length sl0
    cases hr : compL g t de vs ρ0.length xs [] (wipeE ρ0 vs) with
    | none => rw [hr] at q; exact q.elim
    | some p =>
      obtain ⟨ys, ρe⟩ := p
      rw [hr] at q
      dsimp only at q
      by_cases hoke : okW ρe vs = true
      case neg => rw [if_neg hoke] at q; exact q.elim
      rw [if_pos hoke] at q
      have q : pO C.X.K C.cl F0 H0 n0 σ Q (.olst ys) (restE ρe ρ0 vs) := q
      rw [← hlen, ← hN] at hr
      obtain ⟨wD, eD⟩ := new_own (o := .lst []) wf0 hD
      have slD : SL C.X.K C.cl F0 (upd H0 Dl (.lst [])) (wipeE ρ0 vs) (wipe σ vs) n0 := SL.wipe (sl0.ext wf0 (fun a h => h) fun a h => upd_ne fun e => h (by rw [e]; exact hD)) hok.1
      have hWL : (wipe σ vs).length = σ.length := wipe_length σ vs
      -- turn by turn
      let Inv1 : Nat → Hp → Prop := fun i H1 => i ≤ xs.length ∧ ∃ (F1 : Addr → Prop) (ρ1 : Env) (n1 : Addr → Nat) (acc : List D) (av : List V), Lat F0 H0 F1 H1 ∧ SL C.X.K C.cl F1 H1 ρ1 (wipe σ vs) n1 ∧ WF F1 H1 (fun a => one Dl a + n1 a) ∧
        Ext F0 H0 n0 F1 H1 (fun a => one Dl a + n1 a) ∧ H1 Dl = some (.lst av) ∧ RL C.X.K C.cl F1 H1 acc av ∧ acc.length ≤ i ∧ okW ρ1 vs = true ∧ compL g t de vs N (xs.drop i) acc ρ1 = some (ys, ρe)
      refine ⟨fun i k H1 => k = xs.length - i ∧ Inv1 i H1, ⟨xs.length, rfl, Nat.zero_le _, F0, wipeE ρ0 vs, n0, [], [], ⟨fun _ h => h, fun a h => upd_ne fun e => wf0.hf a h (by rw [e]; exact hD)⟩, slD, wD, eD, upd_same, rfl, Nat.le_refl _, okW_wipe hok.1, hr⟩, ?_⟩
      rintro i k H1 ⟨rfl, hi, F1, ρ1, n1, acc, av, l1, sl1, wf1, ex1, hD1, rl1, hacc, ok1, hc⟩
      have wn1 : WF F1 H1 n1 := wf1.sub fun a => by omega
      by_cases hlt : i < xs.length
      · refine .inr ⟨w0.goes i F1 H1 n1 hlt l1 wn1, Inv1 (i + 1), fun H' h => ⟨xs.length - (i + 1), by omega, rfl, h⟩, fun v H2 y => ?_⟩
        obtain ⟨dd, F2, hd, rd, wf2, ex2, sm2⟩ := w0.yields i F1 H1 n1 v H2 hlt l1 wn1 y
        have hdrop : xs.drop i = dd :: xs.drop (i + 1) := by
          rw [List.drop_eq_getElem_cons hlt]
          rw [List.getElem?_eq_getElem hlt] at hd
          rw [Option.some.inj hd]
        rw [hdrop] at hc
        have sl2 : SL C.X.K C.cl F2 H2 ρ1 (wipe σ vs) n1 := sl1.mono ex2.fz (frame_eq wn1 ex2) fun a ha => by
          cases z : H1 a with
          | none => exact absurd z (wn1.ho a ha)
          | some o => exact sm2 a o z
        unfold compL at hc
        cases hg : g dd (oth N vs) ρ1 with
        | none => rw [hg] at hc; cases hc
        | some ρ2 =>
          rw [hg] at hc
          dsimp only at hc
          by_cases hN2 : ρ2.length = N
          case neg => rw [if_neg hN2] at hc; cases hc
          rw [if_pos hN2] at hc
          refine ⟨F2, ρ1, n1, dd, ρ2, rd, sl2, wf2, hg, ?_⟩
          intro σ3 F3 H3 n3 sl3 wf3 ex3 lk3
          have hl3 : σ3.length = σ.length := by rw [SL.length sl3, hN2, hN]
          have hw3 : wipe σ3 vs = wipe σ vs := by
            rw [show wipe σ vs = wipe (wipe σ vs) vs from (wipe_eq hWL fun j hj _ => wipe_get vs j hj).symm]
            refine wipe_eq (by rw [hl3, hWL]) fun j hj hjl => lk3 j ?_
            unfold oth
            rw [List.mem_filter, List.mem_range, hN]
            exact ⟨by rw [hWL] at hjl; exact hjl, by simpa using hj⟩
          refine ⟨hw3, ?_⟩
          have ex13 := ex2.trans wn1 ex3
          obtain ⟨wp3, ep3, hD3⟩ := beside (K := C.X.K) (cl := C.cl) wf1 ex13 wf3 hD1
          have rl3 : RL C.X.K C.cl F3 H3 acc av := rl1.ext wn1 ex13
          -- the next turn's start
          have again : ∀ {F4 : Addr → Prop} {H4 : Hp} {n4 : Addr → Nat} {ρ4 : Env} {acc4 : List D} {av4 : List V}, WF F4 H4 (fun a => one Dl a + n4 a) → Ext F1 H1 (fun a => one Dl a + n1 a) F4 H4 (fun a => one Dl a + n4 a) → SL C.X.K C.cl F4 H4 ρ4 σ3 n4 → H4 Dl = some (.lst av4) → RL C.X.K C.cl F4 H4 acc4 av4 → acc4.length ≤ i + 1 → okW ρ4 vs = true →
              compL g t de vs N (xs.drop (i + 1)) acc4 (wipeE ρ4 vs) = some (ys, ρe) → Inv1 (i + 1) H4 := fun {F4 H4 n4 ρ4 acc4 av4} w4 e4 s4 h4 r4 l4 ok4 c4 => by
            have e04 := ex1.trans wf0 e4
            refine ⟨hlt, F4, wipeE ρ4 vs, n4, acc4, av4, ⟨fun a h => e04.fz a h, fun a h => frame_eq wf0 e04 a h⟩, ?_, w4, e04, h4, r4, l4, okW_wipe ok4, c4⟩
            rw [← hw3]
            exact SL.wipe s4 ok4
          refine ⟨F3, ρ2, n3, sl3, wf3, ?_⟩
          unfold Mt
          cases ht : t ρ2 with
          | none => rw [ht] at hc; cases hc
          | some p =>
            obtain ⟨r, ρ3⟩ := p
            rw [ht] at hc
            cases r with
            | error x => cases hc
            | ok b =>
              intro F4 H4 n4 sl4 wf4 ex4
              obtain ⟨wp4, ep4, hD4⟩ := beside (K := C.X.K) (cl := C.cl) wp3 ex4 wf4 hD3
              cases b with
              | false =>
                rw [if_neg Bool.false_ne_true]
                dsimp only at hc
                by_cases ok3 : okW ρ3 vs = true
                · rw [if_pos ok3] at hc
                  exact again wp4 (ep3.trans wf1 ep4) sl4 hD4 (rl3.ext wf3 ex4) (by omega) ok3 hc
                · rw [if_neg ok3] at hc
                  cases hc
              | true =>
                rw [if_pos rfl]
                dsimp only at hc
                refine ⟨F4, ρ3, n4, sl4, wf4, ?_⟩
                unfold Mt
                cases he : de ρ3 with
                | none => rw [he] at hc; cases hc
                | some p =>
                  obtain ⟨r, ρ4⟩ := p
                  rw [he] at hc
                  cases r with
                  | error x => cases hc
                  | ok y =>
                    intro v5 F5 H5 n5 ry sl5 wf5 ex5
                    dsimp only at hc
                    by_cases ok4 : okW ρ4 vs = true
                    · rw [if_pos ok4] at hc
                      obtain ⟨wp5, ep5, hD5⟩ := beside (K := C.X.K) (cl := C.cl) wp4 ex5 wf5 hD4
                      have rl5 : RL C.X.K C.cl F5 H5 acc av := (rl3.ext wf3 ex4).ext wf4 ex5
                      have lav : av.length = acc.length := rl5.length
                      refine ⟨av, hD5, by omega, ?_⟩
                      have nfD : ¬ F5 Dl := wp5.nf Dl (by unfold one; rw [if_pos rfl]; omega)
                      have n5D : n5 Dl = 0 := by
                        have := wp5.le Dl
                        unfold one at this
                        rw [if_pos rfl] at this
                        omega
                      have hf6 : ∀ a, F5 a → upd H5 Dl (.lst (av ++ [v5])) a = H5 a := fun a h => upd_ne fun e => nfD (e ▸ h)
                      have ho6 : ∀ a, n5 a ≠ 0 → upd H5 Dl (.lst (av ++ [v5])) a = H5 a := fun a h => upd_ne fun e => h (e ▸ n5D)
                      have wp6 : WF F5 (upd H5 Dl (.lst (av ++ [v5]))) (fun a => one Dl a + n5 a) := by
                        refine ⟨wp5.le, wp5.nf, fun a h => ?_, fun a h => by rw [hf6 a h]; exact wp5.hf a h⟩
                        by_cases e : a = Dl
                        · rw [e, upd_same]; simp
                        · rw [upd_ne e]; exact wp5.ho a h
                      have ep6 : Ext F5 H5 (fun a => one Dl a + n5 a) F5 (upd H5 Dl (.lst (av ++ [v5]))) (fun a => one Dl a + n5 a) := by
                        refine ⟨fun a o ho hz => ?_, fun a h => ?_, fun _ h => h, fun a h => .inl h, fun a h => .inl h⟩
                        · have hne : a ≠ Dl := fun e => by
                            have hz : one Dl a + n5 a = 0 := hz
                            unfold one at hz
                            rw [if_pos e] at hz
                            omega
                          rw [upd_ne hne]; exact ho
                        · by_cases e : a = Dl
                          · rw [e, upd_same]; simp
                          · rw [upd_ne e]; exact h
                      refine again wp6 (((ep3.trans wf1 ep4).trans wf1 ep5).trans wf1 ep6) (SL.mono (fun _ h => h) hf6 ho6 sl5) upd_same ?_ (by rw [List.length_append, List.length_singleton]; omega) ok4 hc
                      exact RL.append (RL.mono (fun _ h => h) hf6 _ rl5) ⟨v5, [], rfl, R.mono (fun _ h => h) hf6 _ ry, rfl⟩
                    · rw [if_neg ok4] at hc
                      cases hc
      · have e : i = xs.length := by omega
        subst e
        rw [List.drop_length] at hc
        unfold compL at hc
        cases hc
        refine .inl ⟨w0.stops F1 H1 n1 l1 wn1, ?_⟩
        have hslots : ∀ v ∈ vs, SLOT C.X.K C.cl F1 H1 (ρ0.getD v none) (σ.getD v none) (fun _ => 0) := fun v hv => by
          have z := hok.1
          unfold okW at z
          rw [List.all_eq_true] at z
          exact SLOT.mono ex1.fz (frame_eq wf0 ex1) (SL.slot sl0 (z v hv))
        have s2 := SL.rest (ρ := ρ0) (σ := σ) sl1 hoke hok.1 hslots
        rw [restS_wipe] at s2
        exact q (.ref Dl) F1 H1 (one Dl) n1 ⟨Dl, av, rfl, hD1, rl1, fun _ => rfl⟩ s2 wf1 ex1
  · rw [if_neg hok] at q
    exact q.elim
theorem o_lc (B : Blk C elt tg iter ifs scope own g t de) (hi : DI C tg iter d) (hs : ∀ x, foldedSetIterable iter C.X.env x = pure x := by intro _; rfl) : DO C (.ListComp elt [⟨tg, iter, ifs, 0⟩] scope pos) (lcomp (own.map (·.2)) d g t de) := by
  refine ⟨fun pins s σ H Q I h => ?_⟩
  exact (pe_lc (elt := elt) (te := tE C.X.K C.cl (fun _ _ _ _ => False) de) (g := tGt C.X.K C.cl (oth σ.length (own.map fun p : Str × Nat => p.2)) g) C.calm C.nd hi B.ok (fun s H L cls fp => B.tg s H L cls fp _) B.tt B.el hs).run pins s σ H Q I (lc_imp rfl h)
theorem s_setLc {i : Nat} {y : Str} (hy : C.X.N[i]? = some y) (hyl : C.X.env.scope.names.lookup y = some .local) (hsw : swapsWith (.ListComp elt [⟨tg, iter, ifs, 0⟩] scope pos) (some (.Name y py)) spos.line C.X.env = pure true)
    (B : Blk C elt tg iter ifs scope own g t de) (hi : DI C tg iter d) (hs : ∀ x, foldedSetIterable iter C.X.env x = pure x := by intro _; rfl) : DS C lk (.Assign [.Name y py] (.ListComp elt [⟨tg, iter, ifs, 0⟩] scope pos) spos) (sset i (lcomp (own.map (·.2)) d g t de)) := by
  refine ⟨fun pins s σ H D I h => ?_⟩
  refine (ps_setLc (te := tE C.X.K C.cl (fun _ _ _ _ => False) de) (g := tGt C.X.K C.cl (oth σ.length (own.map fun p : Str × Nat => p.2)) g) C.calm C.nd hy hyl hsw hi B.ok (fun s H L cls fp => B.tg s H L cls fp _) B.tt B.el hs).run pins s σ H D I ?_
  obtain ⟨F, ρ, n, sl, wf, q⟩ := h
  refine lc_imp (C := C) (own := own) rfl ⟨F, ρ, n, sl, wf, q.bnd.imp fun r ρ1 q => ?_⟩
  intro v F1 H1 m n1 ro sl1 wf1 ex1
  unfold sput at q
  split at q
  · rename_i h
    exact put_ok q ro sl1 wf1 ex1 Lk.refl h.1 h.2
  · exact q.elim
end
/-- no test, one test -/
theorem tt_nil {X : Cx} {K : PySem.W.Frag} {cl : Nat → Addr} {W : WX} : PTs X [] (tT K cl W (ret true)) := ⟨fun pins s σ H Q I ⟨F, ρ, n, sl, wf, q⟩ => pts_nil.run pins s σ H Q I (q F H n sl wf Ext.refl)⟩
theorem tt_one {C : Cf} {s : Shared} {H : Hp} {scope : Scope} {cenv : PySem.Env} {fp : List Addr} {c : Expr} {t : M Bool} (h : DT (C.blk s H scope cenv fp) c t) : PTs (C.X.blk s H scope cenv fp) [c] (tT C.X.K C.cl (fun _ _ _ _ => False) t) := pts_one h
/-! ### more -/
section
variable {C : Cf} {o e : Expr} {d : M D} {pos apos : Pos}
def gbits : D → Option D
  | .int i => some (.int (Builtin.Int.intBits i : Nat))
  | _ => none
theorem e_bits (ho : DE C o d) (hbase : attributeBase o "bit_length" C.X.env (eval o C.X.env) = eval o C.X.env := by rfl) (hline : (apos.endLine == pos.line) = true := by rfl) : DE C (.Call (.Attribute o "bit_length" apos) [] [] pos) (una gbits d) := by
  refine PE.imp (pe_bits ho hbase hline) fun σ H Q ⟨F, ρ, n, sl, wf, q⟩ => ⟨F, ρ, n, sl, wf, q.bnd.imp fun x ρ1 q => ?_⟩
  obtain ⟨z, ez, q⟩ := Mt_lift q
  intro v F1 H1 n1 rx sl1 wf1 ex1
  cases x with
  | int i => cases ez; exact ⟨i, rx, q _ F1 H1 n1 rfl sl1 wf1 ex1⟩
  | _ => cases ez
/-- len of what a name holds, not frozen by this -/
def lenv (i : Nat) : M D := fun ρ => match ρ[i]? with
  | some (some (.olst xs)) => some (.ok (.int xs.length), ρ)
  | some (some (.val x)) => match glen x with
    | some z => some (.ok z, ρ)
    | none => none
  | _ => none
theorem e_lenv {i : Nat} {x : Str} {p : Pos} (ho : PE C.X o (tVar i)) (hx : x = "len") (hg : Gl C.X x) (hm : C.X.mg x = none) (hv : bootBuiltins x = some (.builtin "len")) (hn : x ≠ "__name__" := by decide) (hdb : (x == ("__debug__" : Str)) = false := by decide)
    (he : starEach [o] C.X.env = (false, eval o C.X.env) :: starEach [] C.X.env := by rfl) (hpl : (backTo pos (starEach [] C.X.env)).any (·.1) = false := by rfl) : DE C (.Call (.Name x p) [o] [] pos) (lenv i) := by
  refine PE.imp (pe_callB (r := fun xs H Q => (∃ p ys, xs = [.ref p] ∧ (SqL C.X.K H p ys ∨ SqT C.X.K H p ys) ∧ Q (.int ys.length) H) ∨ opRL C.X.K C.cl (f1 glen) xs H Q) (CallR.or call_len_seq d_len) hg hm hv (pa_cons ho pa_nil he) hn hdb he hpl) fun σ H Q ⟨F, ρ, n, sl, wf, q⟩ => ?_
  unfold lenv at q
  split at q
  · rename_i xs h0
    obtain ⟨a, vs, ev, hv0, rl⟩ := own_list sl h0
    have q : pD C.X.K C.cl F H n σ Q (.int xs.length) ρ := q
    exact ⟨.ref a, ev, .inl ⟨a, vs, rfl, .inl (SqL.of hv0), by rw [rl.length]; exact q.here rfl sl wf⟩⟩
  · rename_i x h0
    cases hz : glen x with
    | none => rw [hz] at q; exact q.elim
    | some z =>
      rw [hz] at q
      have q : pD C.X.K C.cl F H n σ Q z ρ := q
      obtain ⟨v, n1, n2, ev, ro, _⟩ := SL.get sl h0
      exact ⟨v, ev, .inr ⟨F, n, σ, ρ, [x], z, ⟨v, [], rfl, ro.1, rfl⟩, sl, wf, hz, q⟩⟩
  · exact q.elim
/-- x[k], x's list not frozen by this -/
def ixv (i : Nat) (k : M D) : M D := fun ρ => match ρ[i]? with
  | some (some _) => (bnd k fun j => fun ρ => match ρ[i]?, j with
    | some (some (.olst xs)), .int z => match atI xs z with
      | some d => some (.ok d, ρ)
      | none => none
    | some (some (.val x)), j => match gix x j with
      | some d => some (.ok d, ρ)
      | none => none
    | _, _ => none) ρ
  | _ => none
theorem e_ixv {i : Nat} {k : Expr} {dk : M D} (ho : PE C.X o (tVar i)) (hk : DE C k dk) (hs : PlainIx k) : DE C (.Subscript o k pos) (ixv i dk) := by
  refine PE.imp (pe_ix (IxR.or (ix_list (X := C.X)) (d_ix (cl := C.cl))) ho hk hs) fun σ H Q ⟨F, ρ, n, sl, wf, q⟩ => ?_
  unfold ixv at q
  split at q
  · rename_i r h0
    obtain ⟨v, n1, n2, ev, ro, hn, _⟩ := SL.get sl h0
    refine ⟨v, ev, F, ρ, n, sl, wf, q.bnd.imp fun j ρ1 q => ?_⟩
    intro jv F1 H1 n1' rj sl1 wf1 ex1
    split at q
    · rename_i xs z h1
      cases hz : atI xs z with
      | none => rw [hz] at q; exact q.elim
      | some d =>
        rw [hz] at q
        have q : pD C.X.K C.cl F H n σ Q d ρ1 := q
        obtain ⟨a, vs, ev2, hv, rl⟩ := own_list sl1 h1
        rw [ev] at ev2
        cases ev2
        cases rj
        obtain ⟨u, hu, ru⟩ := rl.at hz
        exact .inl ⟨a, vs, z, u, rfl, rfl, SqL.of hv, hu, q u F1 H1 n1' ru sl1 wf1 ex1⟩
    · rename_i x h1
      cases hz : gix x _ with
      | none => rw [hz] at q; exact q.elim
      | some d =>
        rw [hz] at q
        have q : pD C.X.K C.cl F H n σ Q d ρ1 := q
        obtain ⟨v2, m1, m2, ev2, ro2, _⟩ := SL.get sl1 h1
        rw [ev] at ev2
        cases ev2
        exact .inr ⟨F1, n1', σ, ρ1, x, _, d, ro2.1, rj, sl1, wf1, hz, q.step wf ex1⟩
    · exact q.elim
  · exact q.elim
end
end KR

set_option Elab.async false
set_option linter.all false
namespace KR
open PySem L2 PyProof.Rows
theorem Cf.hu64 (C : Cf) : C.X.A.units + 64 < cLine := C.room.units
theorem Cf.hu65 (C : Cf) : C.X.A.units + 65 < cLine := by have := C.room.un; omega
theorem boot_isi : bootBuiltins "isinstance" = some (.builtin "isinstance") := by decide +kernel
/-- the law's promise, of what it answers -/
theorem sp_main {K : PySem.W.Frag} {cl : Nat → Addr} {f : Cl} {H : Hp} {a : Addr} {zs : List Int} (hf : ∃ rs', f [.val (.lsr (zs.map .int))] = some (.ok (.val (.bl true)), rs')) (hS : SqL K H a (zs.map V.int)) :
    spD K cl 1 f [.ref a] H (fun v _ => v = .bl true) fun _ _ _ => False := by
  obtain ⟨rs', e⟩ := hf
  have hR : ∀ {F : Addr → Prop} (zs : List Int), RL K cl F H (zs.map .int) (zs.map V.int) := fun zs => by
    induction zs with
    | nil => rfl
    | cons z zs ih => exact ⟨_, _, rfl, rfl, ih⟩
  refine ⟨fun b => b = a ∧ H b ≠ none, [.val (.lsr (zs.map .int))], fun _ => 0, ⟨.ref a, [], fun _ => 0, fun _ => 0, rfl, ⟨⟨a, _, rfl, ?_, hR zs⟩, fun _ => rfl⟩, ⟨rfl, fun _ => rfl⟩, fun _ => rfl⟩,
    ⟨fun _ => Nat.zero_le _, fun _ h => absurd rfl h, fun _ h => absurd rfl h, fun _ h => h.2⟩, rfl, ?_⟩
  · rcases hS with h | h
    · refine .inl ⟨⟨rfl, fun q => ?_⟩, h⟩
      unfold Rd at h
      rw [q] at h
      rcases h with h | ⟨_, h⟩ <;> cases h
    · exact .inr h
  · rw [e]
    intro v F' H' m n' ro _ _ _
    exact ro.1
theorem cx_no {P : Program} (w : World) (H : Hp) (s : Shared) (e : Value) (s' : Shared) (h : L2.CX P w [] H s (fun _ _ _ => False) e s') : False := by
  obtain ⟨_, _, _, _, _, _, _, _, _, _, _, _, z⟩ := h
  exact z
end KR

set_option Elab.async false
set_option linter.all false
set_option maxRecDepth 100000
set_option maxHeartbeats 2000000
/-! A module's dict with text keys that is only read; join; str of a text. -/
namespace KR
open PySem L2 PyProof.Rows

def keyT (e : DictEntry) : Option Str := match e.key with
  | .str x _ => some x
  | _ => none
/-- the values stand for the data, wherever one stands -/
def VTab (K : PySem.W.Frag) (cl : Nat → Addr) : List D → List Value → Prop
  | [], us => us = []
  | d :: ds, us => ∃ u us', us = u :: us' ∧ (∃ v, RelV v u ∧ ∀ (F : Addr → Prop) (H : Hp), R K cl F H d v) ∧ VTab K cl ds us'
/-- at a: a dict of the module that says tb -/
structure KTab (K : PySem.W.Frag) (P : Params) (cl : Nat → Addr) (a : Addr) (tb : List (Str × D)) : Prop where
  ex : ∃ (es : Array DictEntry) (n : Nat) (us : List Value), K.lookup a = some ⟨.type "dict", none, .dict es n, #[]⟩ ∧ PySem.W.KeysLit P es.toList ∧ es.toList.map keyT = tb.map (fun p => some p.1) ∧ es.toList.map (·.val) = us ∧ VTab K cl (tb.map (·.2)) us
  low : (a == sysModules) = false
theorem find_tab {K : PySem.W.Frag} {cl : Nat → Addr} {z : Str} : ∀ {l : List DictEntry} {tb : List (Str × D)} {us : List Value}, l.map keyT = tb.map (fun p => some p.1) → l.map (·.val) = us → VTab K cl (tb.map (·.2)) us →
    match tb.lookup z with
    | none => l.find? (·.key.isStr z) = none ∧ l.any (·.refKey) = false
    | some d => ∃ e, l.find? (·.key.isStr z) = some e ∧ ∃ v, RelV v e.val ∧ ∀ (F : Addr → Prop) (H : Hp), R K cl F H d v
  | [], [], us, _, _, _ => ⟨rfl, rfl⟩
  | [], _ :: _, _, h, _, _ => by cases h
  | _ :: _, [], _, h, _, _ => by cases h
  | e :: l, (k, d) :: tb, us, h1, h2, h3 => by
    obtain ⟨u, us', e1, hd, hr⟩ := h3
    rw [List.map_cons, List.map_cons] at h1
    injection h1 with k1 k2
    rw [List.map_cons, e1] at h2
    injection h2 with v1 v2
    have ih := find_tab (z := z) k2 v2 hr
    obtain ⟨x, t, hk⟩ : ∃ x t, e.key = .str x t := by
      unfold keyT at k1
      split at k1
      · rename_i x t q
        exact ⟨x, t, q⟩
      · cases k1
    have kx : x = k := by
      unfold keyT at k1
      rw [hk] at k1
      exact Option.some.inj k1
    subst kx
    have hs : e.key.isStr z = (x == z) := by rw [hk]; rfl
    have hf : e.refKey = false := by unfold DictEntry.refKey; rw [hk]
    rw [List.lookup_cons]
    by_cases q : z = x
    · subst q
      rw [show (z == z) = true from beq_self_eq_true z]
      dsimp only
      refine ⟨e, ?_, ?_⟩
      · rw [List.find?_cons_of_pos (by rw [hs]; exact beq_self_eq_true _)]
      · rw [v1]
        exact hd
    · have q1 : (z == x) = false := beq_eq_false_iff_ne.mpr q
      have q2 : (x == z) = false := beq_eq_false_iff_ne.mpr fun e => q e.symm
      rw [q1]
      dsimp only
      have f1 : (e :: l).find? (·.key.isStr z) = l.find? (·.key.isStr z) := List.find?_cons_of_neg (by rw [hs, q2]; exact Bool.false_ne_true)
      have f2 : (e :: l).any (·.refKey) = l.any (·.refKey) := by rw [List.any_cons, hf]; rfl
      rw [f1, f2]
      exact ih
theorem KTab.ns {K : PySem.W.Frag} {P : Params} {cl : Nat → Addr} {a : Addr} {tb : List (Str × D)} (T : KTab K P cl a tb) (z : Str) : match tb.lookup z with
    | none => PySem.W.nsIn K a z = some none
    | some d => ∃ u v, PySem.W.nsIn K a z = some (some u) ∧ RelV v u ∧ ∀ (F : Addr → Prop) (H : Hp), R K cl F H d v := by
  obtain ⟨es, n, us, hl, hk, k1, k2, k3⟩ := T.ex
  have h := find_tab (z := z) k1 k2 k3
  unfold PySem.W.nsIn
  rw [hl]
  dsimp only
  cases q : tb.lookup z with
  | none =>
    rw [q] at h
    dsimp only at h ⊢
    rw [h.1, h.2]
    rfl
  | some d =>
    rw [q] at h
    dsimp only at h ⊢
    obtain ⟨e, he, v, r, hr⟩ := h
    rw [he]
    exact ⟨e.val, v, rfl, r, hr⟩
def ginK (tb : List (Str × D)) : D → Option D
  | .str z => some (.bl (tb.lookup z).isSome)
  | _ => none
def gninK (tb : List (Str × D)) : D → Option D
  | .str z => some (.bl (!(tb.lookup z).isSome))
  | _ => none
def gitK (tb : List (Str × D)) : D → Option D
  | .str z => tb.lookup z
  | _ => none
section
variable {C : Cf} {e : Expr} {d : M D} {pos npos : Pos} {x : Str} {a : Addr} {tb : List (Str × D)}
theorem ns_some {K : PySem.W.Frag} {P : Params} {cl : Nat → Addr} (T : KTab K P cl a tb) (z : Str) : ∃ r, PySem.W.nsIn K a z = some r ∧ r.isSome = (tb.lookup z).isSome := by
  have h := T.ns z
  cases q : tb.lookup z with
  | none => rw [q] at h; exact ⟨none, h, rfl⟩
  | some d => rw [q] at h; obtain ⟨u, v, h1, _⟩ := h; exact ⟨some u, h1, rfl⟩
theorem KTab.kd {K : PySem.W.Frag} {w : World} {cl : Nat → Addr} (T : KTab K w.params cl a tb) : ∃ es n, KDict K w a es n := by
  obtain ⟨es, n, us, hl, hk, _⟩ := T.ex
  exact ⟨es, n, hl, hk, T.low⟩
theorem in_imp {g : List (Str × D) → D → Option D} {f : Bool → Bool} (hg : ∀ y z, g tb y = some z → ∃ s, y = .str s ∧ z = .bl (f (tb.lookup s).isSome)) (T : KTab C.X.K C.X.w.params C.cl a tb) {σ : L2.St} {H : Hp} {Q : VK} (h : tE C.X.K C.cl C.W (una (g tb) d) σ H Q) :
    tOp (fun x y H Q => ∃ (z : Str) (r : Option Value), x = .str z ∧ y = .ref a ∧ PySem.W.nsIn C.X.K a z = some r ∧ Q (.bl (f r.isSome)) H) (tE C.X.K C.cl C.W d) (tC (.ref a)) σ H Q := by
  obtain ⟨F, ρ, n, sl, wf, q⟩ := h
  refine ⟨F, ρ, n, sl, wf, q.bnd.imp fun y ρ1 q => ?_⟩
  intro v F1 H1 n1 ry sl1 wf1 ex1
  obtain ⟨z, ez, q⟩ := Mt_lift q
  obtain ⟨s, rfl, rfl⟩ := hg _ _ ez
  obtain ⟨r, e1, e2⟩ := ns_some T s
  exact ⟨s, r, ry, rfl, e1, by rw [e2]; exact q _ F1 H1 n1 rfl sl1 wf1 ex1⟩
theorem gin_str {tb : List (Str × D)} (y z : D) (h : ginK tb y = some z) : ∃ s, y = .str s ∧ z = .bl (id (tb.lookup s).isSome) := by
  cases y <;> first | (cases h; done) | (cases h; exact ⟨_, rfl, rfl⟩)
theorem gnin_str {tb : List (Str × D)} (y z : D) (h : gninK tb y = some z) : ∃ s, y = .str s ∧ z = .bl (!(tb.lookup s).isSome) := by
  cases y <;> first | (cases h; done) | (cases h; exact ⟨_, rfl, rfl⟩)
theorem e_inK (he : DE C e d) (T : KTab C.X.K C.X.w.params C.cl a tb) (hg : Gl C.X x) (hm : C.X.mg x = some (.ref a)) (hb : behindInMarks .In (.Name x npos) = false := by with_unfolding_all rfl) (hd : (x == ("__debug__" : Str)) = false := by decide) : DE C (.Compare e [.In] [.Name x npos] pos) (una (ginK tb) d) := by
  obtain ⟨es, n, D⟩ := T.kd
  exact PE.imp (pe_cmpR (op_in_kd D) he (pe_glob (v := .ref a) hg hm rfl hd) hb) fun σ H Q h => in_imp (f := id) gin_str T h
theorem e_notinK (he : DE C e d) (T : KTab C.X.K C.X.w.params C.cl a tb) (hg : Gl C.X x) (hm : C.X.mg x = some (.ref a)) (hb : behindInMarks .NotIn (.Name x npos) = false := by with_unfolding_all rfl) (hd : (x == ("__debug__" : Str)) = false := by decide) : DE C (.Compare e [.NotIn] [.Name x npos] pos) (una (gninK tb) d) := by
  obtain ⟨es, n, D⟩ := T.kd
  exact PE.imp (pe_cmpR (op_notIn_kd D) he (pe_glob (v := .ref a) hg hm rfl hd) hb) fun σ H Q h => in_imp (f := fun b => !b) gnin_str T h
theorem t_inK (he : DE C e d) (T : KTab C.X.K C.X.w.params C.cl a tb) (hg : Gl C.X x) (hm : C.X.mg x = some (.ref a)) (hb : behindInMarks .In (.Name x npos) = false := by with_unfolding_all rfl) (hd : (x == ("__debug__" : Str)) = false := by decide) : DT C (.Compare e [.In] [.Name x npos] pos) (tst (una (ginK tb) d)) := by
  obtain ⟨es, n, D⟩ := T.kd
  exact PT.imp (pt_cmpR (op_in_kd D) he (pe_glob (v := .ref a) hg hm rfl hd) hb) fun σ H Q h => in_imp (f := id) gin_str T (t_of (X := C.X) h)
theorem t_notinK (he : DE C e d) (T : KTab C.X.K C.X.w.params C.cl a tb) (hg : Gl C.X x) (hm : C.X.mg x = some (.ref a)) (hb : behindInMarks .NotIn (.Name x npos) = false := by with_unfolding_all rfl) (hd : (x == ("__debug__" : Str)) = false := by decide) : DT C (.Compare e [.NotIn] [.Name x npos] pos) (tst (una (gninK tb) d)) := by
  obtain ⟨es, n, D⟩ := T.kd
  exact PT.imp (pt_cmpR (op_notIn_kd D) he (pe_glob (v := .ref a) hg hm rfl hd) hb) fun σ H Q h => in_imp (f := fun b => !b) gnin_str T (t_of (X := C.X) h)
/-- NAME[e] -/
theorem e_itK {k : Expr} {dk : M D} (hk : DE C k dk) (T : KTab C.X.K C.X.w.params C.cl a tb) (hg : Gl C.X x) (hm : C.X.mg x = some (.ref a)) (hs : PlainIx k) (hd : (x == ("__debug__" : Str)) = false := by decide) : DE C (.Subscript (.Name x npos) k pos) (una (gitK tb) dk) := by
  refine PE.imp (pe_ix ix_kdict (pe_glob (v := .ref a) hg hm rfl hd) hk hs) fun σ H Q ⟨F, ρ, n, sl, wf, q⟩ => ?_
  refine ⟨F, ρ, n, sl, wf, q.bnd.imp fun y ρ1 q0 => ?_⟩
  intro v F1 H1 n1 ry sl1 wf1 ex1
  obtain ⟨z, ez, q2⟩ := Mt_lift q0
  cases y with
  | str s =>
    have hns := T.ns s
    have ez' : tb.lookup s = some z := ez
    rw [ez'] at hns
    obtain ⟨u, v', e1, r, hr⟩ := hns
    obtain ⟨es, n2, us, hl, hk2, _⟩ := T.ex
    exact ⟨a, s, v', rfl, ry, ⟨es, n2, u, hl, hk2, e1, r⟩, q2 _ F1 H1 n1 (hr F1 H1) sl1 wf1 ex1⟩
  | _ => cases ez
/-- a text that the module keeps -/
theorem e_globS {s : Str} (hm : ∃ t, C.X.mg x = some (.str s t)) (hg : Gl C.X x) (hd : (x == ("__debug__" : Str)) = false := by decide) : DE C (.Name x pos) (ret (.str s)) := by
  obtain ⟨t, hm⟩ := hm
  exact e_glob (v := .str s) hg hm ⟨t, rfl⟩ (fun _ _ => rfl) hd
def dstrs : List D → Option (List Str)
  | [] => some []
  | .str x :: r => (dstrs r).map (x :: ·)
  | _ :: _ => none
theorem dstrs_ok {K : PySem.W.Frag} {cl : Nat → Addr} {F : Addr → Prop} {H : Hp} : ∀ {ds : List D} {ys : List Str} {vs : List V}, dstrs ds = some ys → RL K cl F H ds vs → vs = ys.map V.str
  | [], ys, vs, e, h => by cases e; exact h
  | d :: ds, ys, vs, e, ⟨v, us, e1, hd, hr⟩ => by
    cases d with
    | str x =>
      unfold dstrs at e
      cases q : dstrs ds with
      | none => rw [q] at e; cases e
      | some zs =>
        rw [q] at e
        cases e
        rw [e1, dstrs_ok q hr, show v = V.str x from hd]
        rfl
    | _ => cases e
def joinG (a : Str) (ds : List D) : Option D := match dstrs ds with
  | some ys => if (ys.map (·.length)).sum + ys.length * a.length ≤ 16777216 then some (.str (Txt.join a ys)) else none
  | none => none
def gjoin (a : Str) : D → Option D
  | .lst ds => joinG a ds
  | .tup ds => joinG a ds
  | _ => none
def joinD (a b : M D) : M D := bnd a fun x => match x with
  | .str s => bnd b fun y => lift (gjoin s y)
  | _ => stuck
theorem e_join {o : Expr} {da : M D} {apos : Pos} (ho : DE C o da) (he : DE C e d) (hs : starEach [e] C.X.env = [(false, eval e C.X.env)] := by rfl) (hbase : attributeBase o "join" C.X.env (eval o C.X.env) = eval o C.X.env := by rfl) (hline : (apos.endLine == pos.line) = true := by rfl) :
    DE C (.Call (.Attribute o "join" apos) [e] [] pos) (joinD da d) := by
  refine PE.imp (pe_join ho he hs hbase hline) fun σ H Q ⟨F, ρ, n, sl, wf, q⟩ => ?_
  refine ⟨F, ρ, n, sl, wf, q.bnd.imp fun x ρ1 q0 => ?_⟩
  intro v F1 H1 n1 rx sl1 wf1 ex1
  cases x with
  | str s =>
    refine ⟨⟨s, rx⟩, F1, ρ1, n1, sl1, wf1, q0.bnd.step wf ex1 fun y ρ2 q1 => ?_⟩
    intro u F2 H2 n2 ry sl2 wf2 ex2
    obtain ⟨z, ez, q2⟩ := Mt_lift q1
    have fin : ∀ ds p vs, joinG s ds = some z → RL C.X.K C.cl F2 H2 ds vs → u = .ref p → (SqL C.X.K H2 p vs ∨ SqT C.X.K H2 p vs) → ∃ a p', ∃ ys : List Str, v = .str a ∧ [u] = [V.ref p'] ∧ (SqL C.X.K H2 p' (ys.map V.str) ∨ SqT C.X.K H2 p' (ys.map V.str)) ∧ (ys.map (·.length)).sum + ys.length * a.length ≤ 16777216 ∧ Q (.str (Txt.join a ys)) H2 := by
      intro ds p vs ej hr eu hq
      unfold joinG at ej
      cases hd : dstrs ds with
      | none => rw [hd] at ej; cases ej
      | some ys =>
        rw [hd] at ej
        dsimp only at ej
        split at ej
        · rename_i hz
          cases ej
          refine ⟨s, p, ys, rx, by rw [eu], ?_, hz, q2 _ F2 H2 n2 rfl sl2 wf2 (ex1.trans wf ex2)⟩
          rw [← dstrs_ok hd hr]
          exact hq
        · cases ej
    cases y with
    | lst ds => obtain ⟨p, vs, eu, _, hp, hr⟩ := ry; exact fin ds p vs ez hr eu (.inl (SqL.of hp))
    | tup ds => obtain ⟨p, vs, eu, hp, hr⟩ := ry; exact fin ds p vs ez hr eu (.inr (hp.imp (·.2) id))
    | _ => cases ez
  | _ => exact q0.elim
def gstr2 : D → Option D
  | .str x => some (.str x)
  | d => gstr d
theorem d_str2 {X : Cx} {cl : Nat → Addr} : CallR X (.type "str") (opRL X.K cl (f1 gstr2)) := by
  intro pins s σ' H vs us Q I r h
  obtain ⟨F, n, σ, ρ, xs, z, rs, sl, wf, e, q⟩ := id h
  obtain ⟨x, rfl, g1⟩ := f1_of e
  obtain ⟨v, rfl, rx⟩ := rs.one
  by_cases hx : ∃ s, x = .str s
  · obtain ⟨t, rfl⟩ := hx
    cases rx
    cases g1
    exact SkE.call_str_str pins s σ' H _ us Q I r ⟨t, rfl, q.here rfl sl wf⟩
  · have e2 : gstr x = some z := by cases x <;> first | exact g1 | exact absurd ⟨_, rfl⟩ hx
    exact d_str pins s σ' H _ us Q I r ⟨F, n, σ, ρ, [x], z, rs, sl, wf, e2, q⟩
end
end KR

set_option Elab.async false
set_option linter.all false
set_option maxRecDepth 100000
/-! Words for what is left: what the denotations compute. -/
namespace KR
open PySem L2
abbrev I (z : Int) : RV := .val (.int z)
/-- not too large to multiply -/
def sm (a : Int) : Prop := a.natAbs < 2 ^ 200
theorem sm_log {a : Int} (h : sm a) : a.natAbs.log2 < 200 := by
  by_cases h0 : a.natAbs = 0
  · rw [h0]; decide
  · exact (Nat.log2_lt h0).mpr h
theorem mul_ok {a b : Int} (ha : sm a) (hb : sm b) : a.natAbs.log2 + b.natAbs.log2 < 1000000 := by
  have := sm_log ha
  have := sm_log hb
  omega
theorem div_ok {b : Int} (h : 0 < b) (hb : sm b) : 0 < b ∧ b.natAbs.log2 < 9000 := ⟨h, by have := sm_log hb; omega⟩
@[simp] theorem gmul_sm {a b : Int} (ha : sm a) (hb : sm b) : gmul (.int a) (.int b) = some (.int (a * b)) := if_pos (.inl (mul_ok ha hb))
theorem gmul_l {a b : Int} (h : -(2 ^ 64) < a ∧ a < 2 ^ 64) : gmul (.int a) (.int b) = some (.int (a * b)) := if_pos (.inr (.inl h))
@[simp] theorem gmul_two {b : Int} : gmul (.int 2) (.int b) = some (.int (2 * b)) := gmul_l (by decide)
@[simp] theorem gdiv_sm {a b : Int} (h : 0 < b) (hb : sm b) : gdiv (.int a) (.int b) = some (.int (a / b)) := if_pos (div_ok h hb)
@[simp] theorem gmod_pos {a b : Int} (h : 0 < b) : gmod (.int a) (.int b) = some (.int (a % b)) := if_pos h
theorem abs_mul_le {a b : Int} {A B : Nat} (ha : a.natAbs ≤ A) (hb : b.natAbs ≤ B) : (a * b).natAbs ≤ A * B := by rw [Int.natAbs_mul]; exact Nat.mul_le_mul ha hb
/-- what a while loop computes -/
theorem swhile_eq {t : M Bool} {b : S} {lk : List Nat} {ρ : Env} {k : Nat} {r : Except XV Fl × Env} (h : whileN t b k lk ρ = some r) : swhile t b lk ρ = some r := swhile_of h
@[simp] theorem gix_tup {xs : List D} {i : Int} : gix (.tup xs) (.int i) = atI xs i := rfl
@[simp] theorem gix_lst {xs : List D} {i : Int} : gix (.lst xs) (.int i) = atI xs i := rfl
theorem atI_nat {xs : List D} {i : Nat} (h : i < xs.length) : atI xs (i : Int) = some xs[i] := by
  unfold atI ixN
  rw [if_pos (by omega), if_pos (by omega)]
  simp
theorem atI_int {xs : List D} {i : Int} (h0 : 0 ≤ i) (h : i < xs.length) : atI xs i = some (xs[i.toNat]'(by omega)) := by
  have := atI_nat (xs := xs) (i := i.toNat) (by omega)
  rwa [Int.toNat_of_nonneg h0] at this
@[simp] theorem atI_zero {x : D} {xs : List D} : atI (x :: xs) 0 = some x := atI_nat (i := 0) (by simp)
@[simp] theorem atI_one {x y : D} {xs : List D} : atI (x :: y :: xs) 1 = some y := atI_nat (i := 1) (by simp)
theorem atI_last {xs : List D} {x : D} : atI (xs ++ [x]) (-1) = some x := by
  unfold atI ixN
  rw [if_neg (by decide), if_pos (by rw [List.length_append, List.length_singleton]; omega), List.length_append, List.length_singleton]
  have : ((-1 : Int) + ((xs.length + 1 : Nat) : Int)).toNat = xs.length := by omega
  show (xs ++ [x])[((-1 : Int) + ((xs.length + 1 : Nat) : Int)).toNat]? = _
  rw [this]
  simp
theorem whileN_step {t : M Bool} {b : S} {k : Nat} {lk : List Nat} {ρ ρ1 ρ2 : Env} (ht : t ρ = some (.ok true, ρ1)) (hb : b lk ρ1 = some (.ok .nx, ρ2)) : whileN t b (k + 1) lk ρ = whileN t b k lk ρ2 := by
  rw [whileN, sbnd, ht]
  dsimp only
  rw [if_pos rfl, hb]
theorem whileN_done {t : M Bool} {b : S} {k : Nat} {lk : List Nat} {ρ ρ1 : Env} (ht : t ρ = some (.ok false, ρ1)) : whileN t b (k + 1) lk ρ = some (.ok .nx, ρ1) := by
  rw [whileN, sbnd, ht]
  rfl
section
variable {g : Gd} {b : S} {x : D} {xs : List D} {lk : List Nat} {ρ ρ1 ρ2 : Env}
theorem forL_nx (hg : g x lk ρ = some ρ1) (hb : b lk ρ1 = some (.ok .nx, ρ2)) : forL g b (x :: xs) lk ρ = forL g b xs lk ρ2 := by
  show (match g x lk ρ with | none => none | some ρ1 => _) = _
  rw [hg]
  dsimp only
  rw [hb]
theorem forL_bk (hg : g x lk ρ = some ρ1) (hb : b lk ρ1 = some (.ok .bk, ρ2)) : forL g b (x :: xs) lk ρ = some (.ok .nx, ρ2) := by
  show (match g x lk ρ with | none => none | some ρ1 => _) = _
  rw [hg]
  dsimp only
  rw [hb]
theorem forL_ret {r : RV} (hg : g x lk ρ = some ρ1) (hb : b lk ρ1 = some (.ok (.ret r), ρ2)) : forL g b (x :: xs) lk ρ = some (.ok (.ret r), ρ2) := by
  show (match g x lk ρ with | none => none | some ρ1 => _) = _
  rw [hg]
  dsimp only
  rw [hb]
theorem forL_nil : forL g b [] lk ρ = some (.ok .nx, ρ) := rfl
end
section
variable {α β : Type} {ρ : Env} {lk : List Nat}
@[simp] theorem bnd_ap {x : M α} {f : α → M β} : bnd x f ρ = match x ρ with
  | none => none
  | some (.error e, ρ') => some (.error e, ρ')
  | some (.ok a, ρ') => f a ρ' := rfl
@[simp] theorem ret_ap {a : α} : ret a ρ = some (.ok a, ρ) := rfl
@[simp] theorem lift_ap {o : Option α} : lift o ρ = match o with
  | none => none
  | some a => some (.ok a, ρ) := rfl
@[simp] theorem stuck_ap : (stuck : M α) ρ = none := rfl
@[simp] theorem frz_ap {d : M RV} : frz d ρ = bnd d (fun r => ret r.fr) ρ := rfl
@[simp] theorem val_ap {d : M D} : val d ρ = bnd d (fun r => ret (RV.val r)) ρ := rfl
@[simp] theorem getv_ap {i : Nat} : getv i ρ = match ρ[i]? with
  | some (some (.val d)) => some (.ok d, ρ)
  | some (some (.otup xs)) => some (.ok (.tup xs), ρ)
  | some (some r) => some (.ok r.fr, ρ.set i (some (.val r.fr)))
  | _ => none := rfl
@[simp] theorem bin_ap {g : D → D → Option D} {a b : M D} : bin g a b ρ = bnd a (fun x => bnd b fun y => lift (g x y)) ρ := rfl
@[simp] theorem una_ap {g : D → Option D} {a : M D} : una g a ρ = bnd a (fun x => lift (g x)) ρ := rfl
@[simp] theorem cal_ap {g : List D → Option D} {a : M (List D)} : cal g a ρ = bnd a (fun x => lift (g x)) ρ := rfl
@[simp] theorem tst_ap {d : M D} : tst d ρ = bnd d (fun z => lift (asB z)) ρ := rfl
@[simp] theorem tstV_ap {d : M D} : tstV d ρ = bnd d (fun z => lift (tru z)) ρ := rfl
@[simp] theorem tnot_ap {d : M Bool} : tnot d ρ = bnd d (fun b => ret (!b)) ρ := rfl
@[simp] theorem tand_ap {a b : M Bool} : tand a b ρ = bnd a (fun x => if x = true then b else ret false) ρ := rfl
@[simp] theorem tor_ap {a b : M Bool} : tor a b ρ = bnd a (fun x => if x = true then ret true else b) ρ := rfl
@[simp] theorem vand_ap {a b : M D} : vand a b ρ = bnd a (fun x => bnd (lift (asB x)) fun k => if k = true then b else ret (.bl false)) ρ := rfl
@[simp] theorem vor_ap {a b : M D} : vor a b ρ = bnd a (fun x => bnd (lift (asB x)) fun k => if k = true then ret (.bl true) else b) ρ := rfl
@[simp] theorem ite_ap {t : M Bool} {a b : M α} : ite' t a b ρ = bnd t (fun k => if k = true then a else b) ρ := rfl
@[simp] theorem par_ap {d : M D} : par d ρ = bnd d (fun x => bnd (lift (asI x)) fun i => ret (some i)) ρ := rfl
@[simp] theorem cut_ap {d : M D} {lo hi : M (Option Int)} : cut d lo hi ρ = bnd d (fun x => bnd lo fun i => bnd hi fun j => lift (gsl i j x)) ρ := rfl
@[simp] theorem acons_ap {d : M D} {ds : M (List D)} : acons d ds ρ = bnd d (fun x => bnd ds fun xs => ret (x :: xs)) ρ := rfl
@[simp] theorem dtup_ap {ds : M (List D)} : dtup ds ρ = bnd ds (fun xs => lift (if xs.length ≤ sizeLine then some (.tup xs) else none)) ρ := rfl
@[simp] theorem dlst_ap {ds : M (List D)} : dlst ds ρ = bnd ds (fun xs => lift (if xs.length ≤ sizeLine then some (RV.olst xs) else none)) ρ := rfl
@[simp] theorem its_ap {d : M D} : its d ρ = bnd d (fun x => lift (itemsD x)) ρ := rfl
@[simp] theorem icl_ap {g : List D → Option (List D)} {a : M (List D)} : icl g a ρ = bnd a (fun x => lift (g x)) ρ := rfl
@[simp] theorem sbnd_ap {x : M α} {f : α → S} : sbnd x f lk ρ = match x ρ with
  | none => none
  | some (.error e, ρ') => some (.error e, ρ')
  | some (.ok a, ρ') => f a lk ρ' := rfl
@[simp] theorem skip_ap : skip lk ρ = some (.ok .nx, ρ) := rfl
@[simp] theorem fl_ap {f : Fl} : fl f lk ρ = some (.ok f, ρ) := rfl
@[simp] theorem seq_ap {a b : S} : seq a b lk ρ = match a lk ρ with
  | some (.ok .nx, ρ') => b lk ρ'
  | o => o := rfl
@[simp] theorem sput_ap {i : Nat} {r : RV} : sput i r lk ρ = if i < ρ.length ∧ i ∉ lk then some (.ok .nx, ρ.set i (some r)) else none := rfl
@[simp] theorem sset_ap {i : Nat} {d : M RV} : sset i d lk ρ = sbnd d (fun r => sput i r) lk ρ := rfl
@[simp] theorem sret_ap {d : M RV} : sret d lk ρ = sbnd d (fun r => fl (.ret r)) lk ρ := rfl
@[simp] theorem sif_ap {t : M Bool} {a b : S} : sif t a b lk ρ = sbnd t (fun k => if k = true then a else b) lk ρ := rfl
@[simp] theorem sdo_ap {d : M α} : sdo d lk ρ = sbnd d (fun _ => skip) lk ρ := rfl
@[simp] theorem gnm_ap {i : Nat} {x : D} : gnm i x lk ρ = if i < ρ.length ∧ i ∉ lk then some (ρ.set i (some (.val x))) else none := rfl
@[simp] theorem gsn_ap {xs : List D} : gsn xs lk ρ = match xs with | [] => some ρ | _ => none := rfl
@[simp] theorem gsc_ap {g : Gd} {gs : Gds} {x : D} {xs : List D} : gsc g gs (x :: xs) lk ρ = match g x lk ρ with
  | none => none
  | some ρ' => gs xs lk ρ' := rfl
@[simp] theorem gtp_ap {k : Nat} {gs : Gds} {xs : List D} : gtp k gs (.tup xs) lk ρ = if xs.length = k then gs xs lk ρ else none := rfl
@[simp] theorem sasg_ap {g : Gd} {d : M D} : sasg g d lk ρ = sbnd d (fun x => fun lk ρ => (g x lk ρ).map fun ρ' => (.ok .nx, ρ')) lk ρ := rfl
@[simp] theorem spar_ap {i j : Nat} {d : M (List D)} : spar i j d lk ρ = sbnd d (fun xs => fun lk ρ => match xs with
  | [x, y] => if i < ρ.length ∧ j < ρ.length ∧ i ∉ lk ∧ j ∉ lk then some (.ok .nx, (ρ.set i (some (.val x))).set j (some (.val y))) else none
  | _ => none) lk ρ := rfl
@[simp] theorem gaug_ap {g : D → D → Option D} {i : Nat} {d : M D} : gaug g i d lk ρ = match ρ[i]? with
  | some (some (.val x)) => (sbnd d fun y => sbnd (lift (g x y)) fun z => sput i (.val z)) lk ρ
  | _ => none := rfl
@[simp] theorem sfor_ap {g : Gd} {it : M (List D)} {b : S} : sfor g it b lk ρ = sbnd it (fun xs => forL g b xs) lk ρ := rfl
@[simp] theorem apnd_ap {i : Nat} {d : M D} : apnd i d ρ = match ρ[i]? with
  | some (some (.olst _)) => (bnd d fun x => fun ρ => match ρ[i]? with
    | some (some (.olst xs)) => if xs.length < sizeLine then some (.ok .non, ρ.set i (some (.olst (xs ++ [x])))) else none
    | _ => none) ρ
  | _ => none := rfl
@[simp] theorem ocall_ap {f : Cl} {np : Nat} {das : M (List Ag)} : ocall f np das ρ = bnd das (fun as => if as.length = np then callD f as else stuck) ρ := rfl
@[simp] theorem callD_ap {f : Cl} {as : List Ag} : callD f as ρ = match takeA as ρ with
  | none => none
  | some (rs, ρ1) => match f rs with
    | none => none
    | some (x, rs') => if rs'.length = rs.length then some (x, putA as rs' ρ1) else none := rfl
@[simp] theorem cval_ap {d : M D} {ds : M (List Ag)} : cval d ds ρ = bnd d (fun x => bnd ds fun xs => ret (.inr x :: xs)) ρ := rfl
@[simp] theorem clend_ap {i : Nat} {ds : M (List Ag)} : clend i ds ρ = match ρ[i]? with
  | some (some _) => (bnd ds fun xs => ret (.inl i :: xs)) ρ
  | _ => none := rfl
@[simp] theorem lenv_ap {i : Nat} : lenv i ρ = match ρ[i]? with
  | some (some (.olst xs)) => some (.ok (.int xs.length), ρ)
  | some (some (.val x)) => match glen x with
    | some z => some (.ok z, ρ)
    | none => none
  | _ => none := rfl
@[simp] theorem seti_ap {i : Nat} {k d : M D} : seti i k d lk ρ = sbnd d (fun x => fun lk ρ => match ρ[i]? with
  | some (some (.olst _)) => (sbnd k fun j => fun _ ρ => match ρ[i]?, j with
    | some (some (.olst xs)), .int z => match ixN xs.length z with
      | some m => some (.ok .nx, ρ.set i (some (.olst (xs.set m x))))
      | none => none
    | _, _ => none) lk ρ
  | _ => none) lk ρ := rfl
@[simp] theorem ixv_ap {i : Nat} {k : M D} : ixv i k ρ = match ρ[i]? with
  | some (some _) => (bnd k fun j => fun ρ => match ρ[i]?, j with
    | some (some (.olst xs)), .int z => match atI xs z with
      | some d => some (.ok d, ρ)
      | none => none
    | some (some (.val x)), j => match gix x j with
      | some d => some (.ok d, ρ)
      | none => none
    | _, _ => none) ρ
  | _ => none := rfl
theorem lcomp_ap {vs : List Nat} {it : M (List D)} {g : Gd} {t : M Bool} {elt : M D} : lcomp vs it g t elt ρ = bnd it (fun xs => fun ρ =>
  if okW ρ vs = true ∧ xs.length ≤ sizeLine then
    match compL g t elt vs ρ.length xs [] (wipeE ρ vs) with
    | some (ys, ρ2) => if okW ρ2 vs = true then some (.ok (.olst ys), restE ρ2 ρ vs) else none
    | none => none
  else none) ρ := rfl
@[simp] theorem f1_ap {g : D → Option D} {x : D} : f1 g [x] = g x := rfl
@[simp] theorem f2_ap {g : D → D → Option D} {x y : D} : f2 g [x, y] = g x y := rfl
@[simp] theorem gadd_ap {a b : Int} : gadd (.int a) (.int b) = some (.int (a + b)) := rfl
@[simp] theorem gsub_ap {a b : Int} : gsub (.int a) (.int b) = some (.int (a - b)) := rfl
@[simp] theorem gneg_ap {a : Int} : gneg (.int a) = some (.int (-a)) := rfl
@[simp] theorem glt_ap {a b : Int} : glt (.int a) (.int b) = some (.bl (decide (a < b))) := rfl
@[simp] theorem gle_ap {a b : Int} : gle (.int a) (.int b) = some (.bl (decide (a ≤ b))) := rfl
@[simp] theorem ggt_ap {a b : Int} : ggt (.int a) (.int b) = some (.bl (decide (b < a))) := rfl
@[simp] theorem gge_ap {a b : Int} : gge (.int a) (.int b) = some (.bl (decide (b ≤ a))) := rfl
@[simp] theorem geq_ap {a b : Int} : geq (.int a) (.int b) = some (.bl (decide (a = b))) := rfl
@[simp] theorem gne_ap {a b : Int} : gne (.int a) (.int b) = some (.bl (!decide (a = b))) := rfl
@[simp] theorem asB_ap {k : Bool} : asB (.bl k) = some k := rfl
@[simp] theorem tru_ap {k : Bool} : tru (.bl k) = some k := rfl
@[simp] theorem gint_ap {a : Int} : gint (.int a) = some (.int a) := rfl
@[simp] theorem gint_bl {a : Bool} : gint (.bl a) = some (.int (if a then 1 else 0)) := rfl
@[simp] theorem glen_tup {xs : List D} : glen (.tup xs) = some (.int xs.length) := rfl
@[simp] theorem glen_lst {xs : List D} : glen (.lst xs) = some (.int xs.length) := rfl
@[simp] theorem items_tup {xs : List D} : itemsD (.tup xs) = some xs := rfl
@[simp] theorem items_lst {xs : List D} : itemsD (.lst xs) = some xs := rfl
@[simp] theorem items_lsr {xs : List D} : itemsD (.lsr xs) = some xs := rfl
@[simp] theorem fr_val {d : D} : (RV.val d).fr = d := rfl
@[simp] theorem fr_olst {xs : List D} : (RV.olst xs).fr = .lst xs := rfl
@[simp] theorem isVal_val {d : D} : isVal (.val d) = true := rfl
@[simp] theorem isVal_otup {xs : List D} : isVal (.otup xs) = true := rfl
@[simp] theorem fr_otup {xs : List D} : (RV.otup xs).fr = .tup xs := rfl
@[simp] theorem isVal_olst {xs : List D} : isVal (.olst xs) = false := rfl
@[simp] theorem size_line : sizeLine = 16777216 := by decide
end
theorem oth_not {N v : Nat} : v ∉ oth N [v] := by
  unfold oth
  intro h
  have := (List.mem_filter.mp h).2
  simp at this
theorem compL_pure {t : M Bool} {elt : M D} {p : D → Bool} {f : D → D} {v : Nat} {ρ : Env} (hv : v < ρ.length) (hw : ρ[v]? = some none) : ∀ (xs acc : List D), (∀ x ∈ xs, t (ρ.set v (some (.val x))) = some (.ok (p x), ρ.set v (some (.val x)))) →
    (∀ x ∈ xs, p x = true → elt (ρ.set v (some (.val x))) = some (.ok (f x), ρ.set v (some (.val x)))) → compL (gnm v) t elt [v] ρ.length xs acc ρ = some (acc ++ (xs.filter p).map f, ρ)
  | [], acc, _, _ => by simp [compL]
  | x :: xs, acc, ht, he => by
    have hg : gnm v x (oth ρ.length [v]) ρ = some (ρ.set v (some (.val x))) := if_pos ⟨hv, oth_not⟩
    have hk : okW (ρ.set v (some (.val x))) [v] = true := by simp [okW, plainS, List.getElem?_set_self hv]
    have hx : wipeE (ρ.set v (some (.val x))) [v] = ρ := by
      show (ρ.set v (some (.val x))).set v none = ρ
      rw [List.set_set]
      obtain ⟨h1, h2⟩ := List.getElem?_eq_some_iff.mp hw
      rw [← h2]
      exact List.set_getElem_self h1
    have ih := fun acc => compL_pure hv hw (p := p) (f := f) xs acc (fun y h => ht y (List.mem_cons_of_mem _ h)) fun y h => he y (List.mem_cons_of_mem _ h)
    have h1 := ht x List.mem_cons_self
    rw [compL, hg]
    dsimp only
    rw [if_pos (by rw [List.length_set]), h1]
    cases hp : p x with
    | true =>
      dsimp only
      rw [he x List.mem_cons_self hp]
      dsimp only
      rw [if_pos hk, hx, ih, List.filter_cons_of_pos hp, List.map_cons, List.append_assoc]
      rfl
    | false =>
      dsimp only
      rw [if_pos hk, hx, ih, List.filter_cons_of_neg (by rw [hp]; exact Bool.false_ne_true)]
theorem lcomp_pure {it : M (List D)} {t : M Bool} {elt : M D} {p : D → Bool} {f : D → D} {v : Nat} {ρ0 ρ : Env} {xs : List D} (hi : it ρ0 = some (.ok xs, ρ)) (hv : v < ρ.length) (hk : okW ρ [v] = true) (hl : xs.length ≤ sizeLine)
    (ht : ∀ x ∈ xs, t (ρ.set v (some (.val x))) = some (.ok (p x), ρ.set v (some (.val x)))) (he : ∀ x ∈ xs, p x = true → elt (ρ.set v (some (.val x))) = some (.ok (f x), ρ.set v (some (.val x)))) :
    lcomp [v] it (gnm v) t elt ρ0 = some (.ok (.olst ((xs.filter p).map f)), ρ) := by
  have e := compL_pure (ρ := ρ.set v none) (t := t) (elt := elt) (p := p) (f := f) (v := v) (by rw [List.length_set]; exact hv) (List.getElem?_set_self hv) xs [] (fun x h => by rw [List.set_set]; exact ht x h) fun x h q => by rw [List.set_set]; exact he x h q
  rw [List.length_set] at e
  rw [lcomp_ap, bnd_ap, hi]
  dsimp only
  have hw : wipeE ρ [v] = ρ.set v none := rfl
  rw [if_pos ⟨hk, hl⟩, hw, e]
  dsimp only
  have hk2 : okW (ρ.set v none) [v] = true := by simp [okW, plainS, List.getElem?_set_self hv]
  rw [if_pos hk2]
  have hr : restE (ρ.set v none) ρ [v] = ρ := by
    show (ρ.set v none).set v (ρ.getD v none) = ρ
    rw [List.set_set, List.getD_eq_getElem?_getD, List.getElem?_eq_getElem hv]
    exact List.set_getElem_self hv
  rw [hr]
  rfl
@[simp] theorem gtup_lst {xs : List D} : gtup (.lst xs) = some (.tup xs) := rfl
@[simp] theorem gtup_tup {xs : List D} : gtup (.tup xs) = some (.tup xs) := rfl
theorem gadd_lst {a b : List D} (h : a.length + b.length ≤ 16777216) : gadd (.lst a) (.lst b) = some (.lst (a ++ b)) := if_pos (by rw [size_line]; exact h)
/-! ### texts -/
def S' (l : List Nat) : Str := ⟨l.toArray⟩
theorem S_len {l : List Nat} : (S' l).length = l.length := by simp [S', Str.length]
theorem S_toList (x : Str) : S' x.cps.toList = x := by cases x; simp [S']
theorem S_inj {a b : List Nat} : S' a = S' b ↔ a = b := by simp [S']
theorem S_app {a b : List Nat} : S' a ++ S' b = S' (a ++ b) := by
  show (⟨a.toArray ++ b.toArray⟩ : Str) = ⟨(a ++ b).toArray⟩
  simp
@[simp] theorem geq_str {a b : Str} : geq (.str a) (.str b) = some (.bl (decide (a = b))) := rfl
@[simp] theorem gne_str {a b : Str} : gne (.str a) (.str b) = some (.bl (!decide (a = b))) := rfl
theorem glen_S {l : List Nat} (h : l.length ≤ 16777216) : glen (.str (S' l)) = some (.int l.length) := by
  unfold glen
  dsimp only
  rw [S_len, if_pos (by rw [size_line]; exact h)]
theorem gadd_S {a b : List Nat} (h : a.length + b.length ≤ 16777216) : gadd (.str (S' a)) (.str (S' b)) = some (.str (S' (a ++ b))) := by
  unfold gadd
  dsimp only
  rw [S_len, S_len, if_pos (by rw [size_line]; exact h), S_app]
theorem gix_S {X : List Nat} {i c : Nat} {r : List Nat} (hd : X.drop i = c :: r) (h : X.length ≤ 16777216) : gix (.str (S' X)) (.int i) = some (.str (S' [c])) := by
  have hi : i < X.length := by
    have := congrArg List.length hd
    rw [List.length_drop, List.length_cons] at this
    omega
  have hx : X[i]? = some c := by
    have := congrArg List.head? hd
    rw [List.head?_drop] at this
    simpa using this
  unfold gix
  dsimp only
  rw [S_len, if_pos (by rw [size_line]; exact h)]
  unfold atI ixN
  have e : (S' X).cps.toList = X := by simp [S']
  rw [e, if_pos (by omega), if_pos (by omega)]
  simp [hx]
  rfl
theorem gsl_S {X a r : List Nat} {i j : Nat} (hd : X.drop i = a ++ r) (hj : j = i + a.length) (hi : i ≤ X.length) (h : X.length ≤ 16777216) : gsl (some (i : Int)) (some (j : Int)) (.str (S' X)) = some (.str (S' a)) := by
  unfold gsl
  dsimp only
  rw [S_len, if_pos (by rw [size_line]; exact h)]
  have hl := congrArg List.length hd
  rw [List.length_drop, List.length_append] at hl
  have e : (S' X).cps.toList = X := by simp [S']
  unfold cutS
  rw [e, S_len, HT.sIx_nat, HT.sIx_nat, Nat.min_eq_left hi, hd, Nat.min_eq_left (by omega), hj]
  have : i + a.length - i = a.length := by omega
  rw [this, List.take_left']
  · rfl
  · rfl
theorem gin_S {c : Nat} {x : Str} : gin (.str (S' [c])) (.str x) = some (.bl (decide (c ∈ x.cps.toList))) := by
  show (match (S' [c]).cps.toList with | [c] => some (decide (c ∈ x.cps.toList)) | _ => none).map D.bl = _
  simp [S']
theorem gin_strs {x : Str} {ys : List Str} : gin (.str x) (.tup (ys.map .str)) = some (.bl (decide (x ∈ ys))) := by
  show (dinL (.str x) (ys.map .str)).map D.bl = _
  unfold dinL
  have h : (ys.map D.str).all isfl = true := by
    rw [List.all_map, List.all_eq_true]
    intro y _
    rfl
  rw [if_pos ⟨rfl, h⟩]
  refine congrArg (fun b => some (D.bl b)) ?_
  rw [List.any_map]
  induction ys with
  | nil => rfl
  | cons y ys ih =>
    rw [List.any_cons, ih (by rw [List.map_cons, List.all_cons, Bool.and_eq_true] at h; exact h.2)]
    show ((y == x) || _) = _
    by_cases e : y = x
    · subst e; simp
    · have e' : ¬ x = y := fun q => e q.symm
      have e2 : (y == x) = false := beq_eq_false_iff_ne.mpr e
      simp [e', e2]
theorem adv {X a b : List Nat} {i : Nat} (h : X.drop i = a ++ b) : X.drop (i + a.length) = b := by
  rw [← List.drop_drop, h, List.drop_left']
  rfl
theorem adv_le {X a b : List Nat} {i : Nat} (h : X.drop i = a ++ b) (hi : i ≤ X.length) : i + a.length ≤ X.length := by
  have hl := congrArg List.length h
  rw [List.length_drop, List.length_append] at hl
  omega
/-- one test and one value an item -/
inductive All2 (P : D → Option D → Prop) : List D → List (Option D) → Prop
  | nil : All2 P [] []
  | cons {x : D} {r : Option D} {xs : List D} {rs : List (Option D)} : P x r → All2 P xs rs → All2 P (x :: xs) (r :: rs)
theorem lcomp_rel {it : M (List D)} {t : M Bool} {elt : M D} {v : Nat} {ρ0 ρ : Env} {xs : List D} {rs : List (Option D)} (hi : it ρ0 = some (.ok xs, ρ)) (hv : v < ρ.length) (hk : okW ρ [v] = true) (hl : xs.length ≤ sizeLine)
    (ha : All2 (fun x r => t (ρ.set v (some (.val x))) = some (.ok r.isSome, ρ.set v (some (.val x))) ∧ ∀ y, r = some y → elt (ρ.set v (some (.val x))) = some (.ok y, ρ.set v (some (.val x)))) xs rs) :
    lcomp [v] it (gnm v) t elt ρ0 = some (.ok (.olst (rs.filterMap id)), ρ) := by
  have go : ∀ {xs : List D} {rs : List (Option D)} (acc : List D), All2 (fun x r => t (ρ.set v (some (.val x))) = some (.ok r.isSome, ρ.set v (some (.val x))) ∧ ∀ y, r = some y → elt (ρ.set v (some (.val x))) = some (.ok y, ρ.set v (some (.val x)))) xs rs →
      compL (gnm v) t elt [v] ρ.length xs acc (ρ.set v none) = some (acc ++ rs.filterMap id, ρ.set v none) := by
    intro xs rs acc h
    induction h generalizing acc with
    | nil => simp [compL]
    | @cons x r xs rs hp hr ih =>
      have hv' : v < (ρ.set v none).length := by rw [List.length_set]; exact hv
      have hg : gnm v x (oth ρ.length [v]) (ρ.set v none) = some (ρ.set v (some (.val x))) := by
        show (if v < (ρ.set v none).length ∧ v ∉ oth ρ.length [v] then some ((ρ.set v none).set v (some (.val x))) else none) = _
        rw [if_pos ⟨hv', oth_not⟩, List.set_set]
      have hk : okW (ρ.set v (some (.val x))) [v] = true := by simp [okW, plainS, List.getElem?_set_self hv]
      have hx : wipeE (ρ.set v (some (.val x))) [v] = ρ.set v none := by
        show (ρ.set v (some (.val x))).set v none = ρ.set v none
        rw [List.set_set]
      rw [compL, hg]
      dsimp only
      rw [if_pos (by rw [List.length_set]), hp.1]
      cases r with
      | some y =>
        dsimp only [Option.isSome]
        rw [hp.2 y rfl]
        dsimp only
        rw [if_pos hk, hx, ih, List.filterMap_cons_some (by rfl), List.append_assoc]
        rfl
      | none =>
        dsimp only [Option.isSome]
        rw [if_pos hk, hx, ih, List.filterMap_cons_none (by rfl)]
  have e := go [] ha
  rw [lcomp_ap, bnd_ap, hi]
  dsimp only
  have hw : wipeE ρ [v] = ρ.set v none := rfl
  rw [if_pos ⟨hk, hl⟩, hw, e]
  dsimp only
  have hk2 : okW (ρ.set v none) [v] = true := by simp [okW, plainS, List.getElem?_set_self hv]
  rw [if_pos hk2]
  have hr : restE (ρ.set v none) ρ [v] = ρ := by
    show (ρ.set v none).set v (ρ.getD v none) = ρ
    rw [List.set_set, List.getD_eq_getElem?_getD, List.getElem?_eq_getElem hv]
    exact List.set_getElem_self hv
  rw [hr]
  rfl
theorem icl_ok {g : List D → Option (List D)} {a : M (List D)} {ρ ρ' : Env} {as R : List D} (ha : a ρ = some (.ok as, ρ')) (hg : g as = some R) : icl g a ρ = some (.ok R, ρ') := by
  rw [icl_ap, bnd_ap, ha]
  dsimp only
  rw [lift_ap, hg]
@[simp] theorem ofString_inj {a b : String} : (Str.ofString a = Str.ofString b) ↔ a = b := by
  refine ⟨fun h => ?_, fun h => by rw [h]⟩
  rw [Str.ofString_eq_toList, Str.ofString_eq_toList] at h
  have h2 : a.toList.map Char.toNat = b.toList.map Char.toNat := by
    have := congrArg (fun s : Str => s.cps.toList) h
    simpa using this
  have h3 : a.toList = b.toList := by
    have inj : ∀ (l m : List Char), l.map Char.toNat = m.map Char.toNat → l = m := by
      intro l
      induction l with
      | nil => intro m h; cases m with
        | nil => rfl
        | cons y m => cases h
      | cons x l ih =>
        intro m h
        cases m with
        | nil => cases h
        | cons y m =>
          rw [List.map_cons, List.map_cons] at h
          injection h with h1 h2
          rw [ih m h2, Char.toNat_inj.mp h1]
    exact inj _ _ h2
  exact String.toList_inj.mp h3
end KR

set_option Elab.async false
set_option linter.all false
set_option maxRecDepth 100000
set_option maxHeartbeats 2000000
/-! Comprehensions of two sources (no tests). -/
namespace KR
open PySem L2
section
variable {K : PySem.W.Frag} {cl : Nat → Addr}
/-- the turns of one source, from where a list stands half made -/
theorem lc_turns {J : It} {xs : List D} {F0 : Addr → Prop} {H0 : Hp} (w0 : WalkD K cl J xs F0 H0) {σ : L2.St} {vs : List Nat} {N : Nat} (hN : N = σ.length) {Dl : Addr} {Fin : Hp → Prop} {g : Gd} {t : M Bool} {de : M D}
    {FA : Addr → Prop} {HA : Hp} {nA : Addr → Nat} {ρA : Env} {accA ys : List D} {avA : List V} {ρe : Env} (lA : Lat F0 H0 FA HA) (slA : SL K cl FA HA ρA (wipe σ vs) nA) (wfA : WF FA HA (fun a => one Dl a + nA a)) (hDA : HA Dl = some (.lst avA)) (rlA : RL K cl FA HA accA avA) (hsz : accA.length + xs.length ≤ sizeLine) (okA : okW ρA vs = true)
    (hr : compL g t de vs N xs accA ρA = some (ys, ρe))
    (fin : ∀ (F2 : Addr → Prop) (H2 : Hp) (n2 : Addr → Nat) (av2 : List V), Ext FA HA (fun a => one Dl a + nA a) F2 H2 (fun a => one Dl a + n2 a) → Lat F0 H0 F2 H2 → SL K cl F2 H2 ρe (wipe σ vs) n2 → WF F2 H2 (fun a => one Dl a + n2 a) → H2 Dl = some (.lst av2) → RL K cl F2 H2 ys av2 → Fin H2) :
    ∃ W : Nat → Nat → Hp → Prop, (∃ m, W 0 m HA) ∧ ∀ i m H, W i m H → (J.stop i H ∧ Fin H) ∨ (J.go i H ∧ ∃ Nx : Hp → Prop, (∀ H', Nx H' → ∃ m', m' < m ∧ W (i + 1) m' H') ∧ ∀ x H', J.yld i H x H' → tGt K cl (oth N vs) g x (wipe σ vs) H' fun σ2 H2 => wipe σ2 vs = wipe σ vs ∧ tT K cl (fun _ _ _ _ => False) t σ2 H2 fun b H3 =>
      if b = true then tE K cl (fun _ _ _ _ => False) de σ2 H3 fun y H4 => ∃ acc, H4 Dl = some (.lst acc) ∧ acc.length < sizeLine ∧ Nx (upd H4 Dl (.lst (acc ++ [y]))) else Nx H3) := by
  have hWL : (wipe σ vs).length = σ.length := wipe_length σ vs
  let Inv1 : Nat → Hp → Prop := fun i H1 => i ≤ xs.length ∧ ∃ (F1 : Addr → Prop) (ρ1 : Env) (n1 : Addr → Nat) (acc : List D) (av : List V), Lat F0 H0 F1 H1 ∧ SL K cl F1 H1 ρ1 (wipe σ vs) n1 ∧ WF F1 H1 (fun a => one Dl a + n1 a) ∧
    Ext FA HA (fun a => one Dl a + nA a) F1 H1 (fun a => one Dl a + n1 a) ∧ H1 Dl = some (.lst av) ∧ RL K cl F1 H1 acc av ∧ acc.length ≤ accA.length + i ∧ okW ρ1 vs = true ∧ compL g t de vs N (xs.drop i) acc ρ1 = some (ys, ρe)
  refine ⟨fun i k H1 => k = xs.length - i ∧ Inv1 i H1, ⟨xs.length, rfl, Nat.zero_le _, FA, ρA, nA, accA, avA, lA, slA, wfA, Ext.refl, hDA, rlA, Nat.le_refl _, okA, hr⟩, ?_⟩
  rintro i k H1 ⟨rfl, hi, F1, ρ1, n1, acc, av, l1, sl1, wf1, ex1, hD1, rl1, hacc, ok1, hc⟩
  have wn1 : WF F1 H1 n1 := wf1.sub fun a => by omega
  by_cases hlt : i < xs.length
  · refine .inr ⟨w0.goes i F1 H1 n1 hlt l1 wn1, Inv1 (i + 1), fun H' h => ⟨xs.length - (i + 1), by omega, rfl, h⟩, fun v H2 y => ?_⟩
    obtain ⟨dd, F2, hd, rd, wf2, ex2, sm2⟩ := w0.yields i F1 H1 n1 v H2 hlt l1 wn1 y
    have hdrop : xs.drop i = dd :: xs.drop (i + 1) := by
      rw [List.drop_eq_getElem_cons hlt]
      rw [List.getElem?_eq_getElem hlt] at hd
      rw [Option.some.inj hd]
    rw [hdrop] at hc
    have sl2 : SL K cl F2 H2 ρ1 (wipe σ vs) n1 := sl1.mono ex2.fz (frame_eq wn1 ex2) fun a ha => by
      cases z : H1 a with
      | none => exact absurd z (wn1.ho a ha)
      | some o => exact sm2 a o z
    unfold compL at hc
    cases hg : g dd (oth N vs) ρ1 with
    | none => rw [hg] at hc; cases hc
    | some ρ2 =>
      rw [hg] at hc
      dsimp only at hc
      by_cases hN2 : ρ2.length = N
      case neg => rw [if_neg hN2] at hc; cases hc
      rw [if_pos hN2] at hc
      refine ⟨F2, ρ1, n1, dd, ρ2, rd, sl2, wf2, hg, ?_⟩
      intro σ3 F3 H3 n3 sl3 wf3 ex3 lk3
      have hl3 : σ3.length = σ.length := by rw [SL.length sl3, hN2, hN]
      have hw3 : wipe σ3 vs = wipe σ vs := by
        rw [show wipe σ vs = wipe (wipe σ vs) vs from (wipe_eq hWL fun j hj _ => wipe_get vs j hj).symm]
        refine wipe_eq (by rw [hl3, hWL]) fun j hj hjl => lk3 j ?_
        unfold oth
        rw [List.mem_filter, List.mem_range, hN]
        exact ⟨by rw [hWL] at hjl; exact hjl, by simpa using hj⟩
      refine ⟨hw3, ?_⟩
      have ex13 := ex2.trans wn1 ex3
      obtain ⟨wp3, ep3, hD3⟩ := beside (K := K) (cl := cl) wf1 ex13 wf3 hD1
      have rl3 : RL K cl F3 H3 acc av := rl1.ext wn1 ex13
      -- the next turn's start
      have again : ∀ {F4 : Addr → Prop} {H4 : Hp} {n4 : Addr → Nat} {ρ4 : Env} {acc4 : List D} {av4 : List V}, WF F4 H4 (fun a => one Dl a + n4 a) → Ext F1 H1 (fun a => one Dl a + n1 a) F4 H4 (fun a => one Dl a + n4 a) → SL K cl F4 H4 ρ4 σ3 n4 → H4 Dl = some (.lst av4) → RL K cl F4 H4 acc4 av4 → acc4.length ≤ accA.length + (i + 1) → okW ρ4 vs = true →
          compL g t de vs N (xs.drop (i + 1)) acc4 (wipeE ρ4 vs) = some (ys, ρe) → Inv1 (i + 1) H4 := fun {F4 H4 n4 ρ4 acc4 av4} w4 e4 s4 h4 r4 l4 ok4 c4 => by
        have e04 := ex1.trans wfA e4
        refine ⟨hlt, F4, wipeE ρ4 vs, n4, acc4, av4, ⟨fun a h => e4.fz a (l1.1 a h), fun a h => (frame_eq wf1 e4 a (l1.1 a h)).trans (l1.2 a h)⟩, ?_, w4, e04, h4, r4, l4, okW_wipe ok4, c4⟩
        rw [← hw3]
        exact SL.wipe s4 ok4
      refine ⟨F3, ρ2, n3, sl3, wf3, ?_⟩
      unfold Mt
      cases ht : t ρ2 with
      | none => rw [ht] at hc; cases hc
      | some p =>
        obtain ⟨r, ρ3⟩ := p
        rw [ht] at hc
        cases r with
        | error x => cases hc
        | ok b =>
          intro F4 H4 n4 sl4 wf4 ex4
          obtain ⟨wp4, ep4, hD4⟩ := beside (K := K) (cl := cl) wp3 ex4 wf4 hD3
          cases b with
          | false =>
            rw [if_neg Bool.false_ne_true]
            dsimp only at hc
            by_cases ok3 : okW ρ3 vs = true
            · rw [if_pos ok3] at hc
              exact again wp4 (ep3.trans wf1 ep4) sl4 hD4 (rl3.ext wf3 ex4) (by omega) ok3 hc
            · rw [if_neg ok3] at hc
              cases hc
          | true =>
            rw [if_pos rfl]
            dsimp only at hc
            refine ⟨F4, ρ3, n4, sl4, wf4, ?_⟩
            unfold Mt
            cases he : de ρ3 with
            | none => rw [he] at hc; cases hc
            | some p =>
              obtain ⟨r, ρ4⟩ := p
              rw [he] at hc
              cases r with
              | error x => cases hc
              | ok y =>
                intro v5 F5 H5 n5 ry sl5 wf5 ex5
                dsimp only at hc
                by_cases ok4 : okW ρ4 vs = true
                · rw [if_pos ok4] at hc
                  obtain ⟨wp5, ep5, hD5⟩ := beside (K := K) (cl := cl) wp4 ex5 wf5 hD4
                  have rl5 : RL K cl F5 H5 acc av := (rl3.ext wf3 ex4).ext wf4 ex5
                  have lav : av.length = acc.length := rl5.length
                  refine ⟨av, hD5, by omega, ?_⟩
                  have nfD : ¬ F5 Dl := wp5.nf Dl (by unfold one; rw [if_pos rfl]; omega)
                  have n5D : n5 Dl = 0 := by
                    have := wp5.le Dl
                    unfold one at this
                    rw [if_pos rfl] at this
                    omega
                  have hf6 : ∀ a, F5 a → upd H5 Dl (.lst (av ++ [v5])) a = H5 a := fun a h => upd_ne fun e => nfD (e ▸ h)
                  have ho6 : ∀ a, n5 a ≠ 0 → upd H5 Dl (.lst (av ++ [v5])) a = H5 a := fun a h => upd_ne fun e => h (e ▸ n5D)
                  have wp6 : WF F5 (upd H5 Dl (.lst (av ++ [v5]))) (fun a => one Dl a + n5 a) := by
                    refine ⟨wp5.le, wp5.nf, fun a h => ?_, fun a h => by rw [hf6 a h]; exact wp5.hf a h⟩
                    by_cases e : a = Dl
                    · rw [e, upd_same]; simp
                    · rw [upd_ne e]; exact wp5.ho a h
                  have ep6 : Ext F5 H5 (fun a => one Dl a + n5 a) F5 (upd H5 Dl (.lst (av ++ [v5]))) (fun a => one Dl a + n5 a) := by
                    refine ⟨fun a o ho hz => ?_, fun a h => ?_, fun _ h => h, fun a h => .inl h, fun a h => .inl h⟩
                    · have hne : a ≠ Dl := fun e => by
                        have hz : one Dl a + n5 a = 0 := hz
                        unfold one at hz
                        rw [if_pos e] at hz
                        omega
                      rw [upd_ne hne]; exact ho
                    · by_cases e : a = Dl
                      · rw [e, upd_same]; simp
                      · rw [upd_ne e]; exact h
                  refine again wp6 (((ep3.trans wf1 ep4).trans wf1 ep5).trans wf1 ep6) (SL.mono (fun _ h => h) hf6 ho6 sl5) upd_same ?_ (by rw [List.length_append, List.length_singleton]; omega) ok4 hc
                  exact RL.append (RL.mono (fun _ h => h) hf6 _ rl5) ⟨v5, [], rfl, R.mono (fun _ h => h) hf6 _ ry, rfl⟩
                · rw [if_neg ok4] at hc
                  cases hc
  · have e : i = xs.length := by omega
    subst e
    rw [List.drop_length] at hc
    unfold compL at hc
    cases hc
    exact .inl ⟨w0.stops F1 H1 n1 l1 wn1, fin F1 H1 n1 av ex1 l1 sl1 wf1 hD1 rl1⟩
end
def compL2 (g : Gd) (it1 : M (List D)) (g1 : Gd) (elt : M D) (vs vs1 : List Nat) (N : Nat) : List D → List D → Env → Option (List D × Env)
  | [], acc, ρ => some (acc, ρ)
  | x :: xs, acc, ρ => match g x (oth N vs) ρ with
    | none => none
    | some ρ1 => if ρ1.length = N then (match it1 ρ1 with
      | some (.ok ys, ρ2) => if okW ρ2 vs1 = true ∧ acc.length + ys.length ≤ sizeLine then (match compL g1 (ret true) elt vs1 N ys acc (wipeE ρ2 vs1) with
        | some (acc', ρ3) => if okW ρ3 vs = true then compL2 g it1 g1 elt vs vs1 N xs acc' (wipeE ρ3 vs) else none
        | none => none) else none
      | _ => none) else none
def lcomp2 (vs vs1 : List Nat) (it : M (List D)) (g : Gd) (it1 : M (List D)) (g1 : Gd) (elt : M D) : M RV := bnd it fun xs => fun ρ =>
  if okW ρ vs = true then
    match compL2 g it1 g1 elt vs vs1 ρ.length xs [] (wipeE ρ vs) with
    | some (ys, ρ2) => if okW ρ2 vs = true then some (.ok (.olst ys), restE ρ2 ρ vs) else none
    | none => none
  else none
section
variable {C : Cf} {elt tg iter tg1 iter1 : Expr} {scope : Scope} {own : List (Str × Nat)} {vs1 : List Nat} {pos spos py : Pos} {d d1 : M (List D)} {g g1 : Gd} {de : M D} {lk : List Nat}
theorem lc_imp2 {σ : L2.St} {H : Hp} {Q : VK} {N : Nat} (hN : N = σ.length) (hv : ∀ i ∈ vs1, i ∈ own.map (·.2)) (h : tO C.X.K C.cl C.W (lcomp2 (own.map (·.2)) vs1 d g d1 g1 de) σ H Q) :
    tLc2 (tI C.X.K C.cl C.W d) (tGt C.X.K C.cl (oth N (own.map (·.2))) g) (tT C.X.K C.cl (fun _ _ _ _ => False) (ret true)) (tI C.X.K C.cl (fun _ _ _ _ => False) d1) (tGt C.X.K C.cl (oth N vs1) g1) (tT C.X.K C.cl (fun _ _ _ _ => False) (ret true)) (tE C.X.K C.cl (fun _ _ _ _ => False) de) (own.map (·.2)) vs1 σ H Q := by
  obtain ⟨F, ρ, n, sl, wf, q⟩ := h
  refine ⟨F, ρ, n, sl, wf, q.bnd.imp fun xs ρ0 q => ?_⟩
  intro J F0 H0 n0 w0 sl0 wf0 ex0 Dl hD
  generalize hvs : own.map (·.2) = vs at q hv ⊢
  have q := Mt.step wf ex0 q (P' := pO C.X.K C.cl F0 H0 n0 σ Q) fun a ρ' q => q.step wf ex0
  by_cases hok : okW ρ0 vs = true
  · rw [if_pos hok] at q
    have hlen := SL.length sl0
    cases hr : compL2 g d1 g1 de vs vs1 ρ0.length xs [] (wipeE ρ0 vs) with
    | none => rw [hr] at q; exact q.elim
    | some p =>
      obtain ⟨ys, ρe⟩ := p
      rw [hr] at q
      dsimp only at q
      by_cases hoke : okW ρe vs = true
      case neg => rw [if_neg hoke] at q; exact q.elim
      rw [if_pos hoke] at q
      have q : pO C.X.K C.cl F0 H0 n0 σ Q (.olst ys) (restE ρe ρ0 vs) := q
      rw [← hlen, ← hN] at hr
      obtain ⟨wD, eD⟩ := new_own (o := .lst []) wf0 hD
      have slD : SL C.X.K C.cl F0 (upd H0 Dl (.lst [])) (wipeE ρ0 vs) (wipe σ vs) n0 := SL.wipe (sl0.ext wf0 (fun a h => h) fun a h => upd_ne fun e => h (by rw [e]; exact hD)) hok
      have hWL : (wipe σ vs).length = σ.length := wipe_length σ vs
      let Inv1 : Nat → Hp → Prop := fun i H1 => i ≤ xs.length ∧ ∃ (F1 : Addr → Prop) (ρ1 : Env) (n1 : Addr → Nat) (acc : List D) (av : List V), Lat F0 H0 F1 H1 ∧ SL C.X.K C.cl F1 H1 ρ1 (wipe σ vs) n1 ∧ WF F1 H1 (fun a => one Dl a + n1 a) ∧
        Ext F0 H0 n0 F1 H1 (fun a => one Dl a + n1 a) ∧ H1 Dl = some (.lst av) ∧ RL C.X.K C.cl F1 H1 acc av ∧ okW ρ1 vs = true ∧ compL2 g d1 g1 de vs vs1 N (xs.drop i) acc ρ1 = some (ys, ρe)
      refine ⟨fun i k H1 => k = xs.length - i ∧ Inv1 i H1, ⟨xs.length, rfl, Nat.zero_le _, F0, wipeE ρ0 vs, n0, [], [], ⟨fun _ h => h, fun a h => upd_ne fun e => wf0.hf a h (by rw [e]; exact hD)⟩, slD, wD, eD, upd_same, rfl, okW_wipe hok, hr⟩, ?_⟩
      rintro i k H1 ⟨rfl, hi, F1, ρ1, n1, acc, av, l1, sl1, wf1, ex1, hD1, rl1, ok1, hc⟩
      have wn1 : WF F1 H1 n1 := wf1.sub fun a => by omega
      by_cases hlt : i < xs.length
      · refine .inr ⟨w0.goes i F1 H1 n1 hlt l1 wn1, Inv1 (i + 1), fun H' h => ⟨xs.length - (i + 1), by omega, rfl, h⟩, fun v H2 y => ?_⟩
        obtain ⟨dd, F2, hd, rd, wf2, ex2, sm2⟩ := w0.yields i F1 H1 n1 v H2 hlt l1 wn1 y
        have hdrop : xs.drop i = dd :: xs.drop (i + 1) := by
          rw [List.drop_eq_getElem_cons hlt]
          rw [List.getElem?_eq_getElem hlt] at hd
          rw [Option.some.inj hd]
        rw [hdrop] at hc
        have sl2 : SL C.X.K C.cl F2 H2 ρ1 (wipe σ vs) n1 := sl1.mono ex2.fz (frame_eq wn1 ex2) fun a ha => by
          cases z : H1 a with
          | none => exact absurd z (wn1.ho a ha)
          | some o => exact sm2 a o z
        unfold compL2 at hc
        cases hg : g dd (oth N vs) ρ1 with
        | none => rw [hg] at hc; cases hc
        | some ρ2 =>
          rw [hg] at hc
          dsimp only at hc
          by_cases hN2 : ρ2.length = N
          case neg => rw [if_neg hN2] at hc; cases hc
          rw [if_pos hN2] at hc
          refine ⟨F2, ρ1, n1, dd, ρ2, rd, sl2, wf2, hg, ?_⟩
          intro σ3 F3 H3 n3 sl3 wf3 ex3 lk3
          have hl3 : σ3.length = σ.length := by rw [SL.length sl3, hN2, hN]
          have hw3 : wipe σ3 vs = wipe σ vs := by
            rw [show wipe σ vs = wipe (wipe σ vs) vs from (wipe_eq hWL fun j hj _ => wipe_get vs j hj).symm]
            refine wipe_eq (by rw [hl3, hWL]) fun j hj hjl => lk3 j ?_
            unfold oth
            rw [List.mem_filter, List.mem_range, hN]
            exact ⟨by rw [hWL] at hjl; exact hjl, by simpa using hj⟩
          refine ⟨hw3, ?_⟩
          have ex13 := ex2.trans wn1 ex3
          obtain ⟨wp3, ep3, hD3⟩ := beside (K := C.X.K) (cl := C.cl) wf1 ex13 wf3 hD1
          have rl3 : RL C.X.K C.cl F3 H3 acc av := rl1.ext wn1 ex13
          refine ⟨F3, ρ2, n3, sl3, wf3, ?_⟩
          intro F4 H4 n4 sl4 wf4 ex4
          obtain ⟨wp4, ep4, hD4⟩ := beside (K := C.X.K) (cl := C.cl) wp3 ex4 wf4 hD3
          rw [if_pos rfl]
          refine ⟨F4, ρ2, n4, sl4, wf4, ?_⟩
          unfold Mt
          cases hi1 : d1 ρ2 with
          | none => rw [hi1] at hc; cases hc
          | some p =>
            obtain ⟨r, ρ3⟩ := p
            rw [hi1] at hc
            cases r with
            | error x => cases hc
            | ok ys1 =>
              intro J1 F5 H5 n5 w5 sl5 wf5 ex5
              obtain ⟨wp5, ep5, hD5⟩ := beside (K := C.X.K) (cl := C.cl) wp4 ex5 wf5 hD4
              have rl5 : RL C.X.K C.cl F5 H5 acc av := (rl3.ext wf3 ex4).ext wf4 ex5
              dsimp only at hc
              by_cases hk : okW ρ3 vs1 = true ∧ acc.length + ys1.length ≤ sizeLine
              case neg => rw [if_neg hk] at hc; cases hc
              rw [if_pos hk] at hc
              cases hin : compL g1 (ret true) de vs1 N ys1 acc (wipeE ρ3 vs1) with
              | none => rw [hin] at hc; cases hc
              | some p =>
                obtain ⟨acc', ρ4⟩ := p
                rw [hin] at hc
                dsimp only at hc
                by_cases ok4 : okW ρ4 vs = true
                case neg => rw [if_neg ok4] at hc; cases hc
                rw [if_pos ok4] at hc
                refine lc_turns w5 (σ := σ3) (vs := vs1) (N := N) (by rw [hl3, hN]) (Dl := Dl) (Fin := Inv1 (i + 1)) ⟨fun _ h => h, fun _ _ => rfl⟩ (SL.wipe sl5 hk.1) wp5 hD5 rl5 hk.2 (okW_wipe hk.1) hin ?_
                intro F6 H6 n6 av6 e6 l6 sl6 wf6 hD6 rl6
                have ee := (((ep3.trans wf1 ep4).trans wf1 ep5).trans wf1 e6)
                have hw6 : wipe (wipe σ3 vs1) vs = wipe σ vs := by
                  rw [← hw3]
                  exact wipe_eq (wipe_length σ3 vs1) fun j hj _ => wipe_get vs1 j fun z => hj (hv j z)
                refine ⟨hlt, F6, wipeE ρ4 vs, n6, acc', av6, ⟨fun a h => ee.fz a (l1.1 a h), fun a h => (frame_eq wf1 ee a (l1.1 a h)).trans (l1.2 a h)⟩, ?_, wf6, ex1.trans wf0 ee, hD6, rl6, okW_wipe ok4, hc⟩
                rw [← hw6]
                exact SL.wipe sl6 ok4
      · have e : i = xs.length := by omega
        subst e
        rw [List.drop_length] at hc
        unfold compL2 at hc
        cases hc
        refine .inl ⟨w0.stops F1 H1 n1 l1 wn1, ?_⟩
        have hslots : ∀ v ∈ vs, SLOT C.X.K C.cl F1 H1 (ρ0.getD v none) (σ.getD v none) (fun _ => 0) := fun v hv => by
          have z := hok
          unfold okW at z
          rw [List.all_eq_true] at z
          exact SLOT.mono ex1.fz (frame_eq wf0 ex1) (SL.slot sl0 (z v hv))
        have s2 := SL.rest (ρ := ρ0) (σ := σ) sl1 hoke hok hslots
        rw [restS_wipe] at s2
        exact q (.ref Dl) F1 H1 (one Dl) n1 ⟨Dl, av, rfl, hD1, rl1, fun _ => rfl⟩ s2 wf1 ex1
  · rw [if_neg hok] at q
    exact q.elim
/-- what the parts of a block of two sources denote -/
structure Blk2 (C : Cf) (elt tg tg1 iter1 : Expr) (scope : Scope) (own : List (Str × Nat)) (vs1 : List Nat) (g : Gd) (d1 : M (List D)) (g1 : Gd) (de : M D) : Prop where
  ok : BlkOk C.X.N C.X.env.scope scope own
  sub : ∀ i ∈ vs1, i ∈ own.map (·.2)
  tg : ∀ (s : Shared) (H : Hp) (L : Addr) (cls : List (Str × Addr)) (fp : List Addr) (lk : List Nat), DG (C.blk s H scope (compEnvC scope cls L C.X.env) fp) lk tg g
  it : ∀ (s : Shared) (H : Hp) (L : Addr) (cls : List (Str × Addr)) (fp : List Addr), DI (C.blk s H scope (compEnvC scope cls L C.X.env) fp) tg1 iter1 d1
  tg1 : ∀ (s : Shared) (H : Hp) (L : Addr) (cls : List (Str × Addr)) (fp : List Addr) (lk : List Nat), DG (C.blk s H scope (compEnvC scope cls L C.X.env) fp) lk tg1 g1
  el : ∀ (s : Shared) (H : Hp) (L : Addr) (cls : List (Str × Addr)) (fp : List Addr), DE (C.blk s H scope (compEnvC scope cls L C.X.env) fp) elt de
theorem o_lc2 (B : Blk2 C elt tg tg1 iter1 scope own vs1 g d1 g1 de) (hi : DI C tg iter d) (hs : ∀ x, foldedSetIterable iter C.X.env x = pure x := by intro _; rfl) (hs1 : ∀ env x, foldedSetIterable iter1 env x = pure x := by intro _ _; rfl) :
    DO C (.ListComp elt [⟨tg, iter, [], 0⟩, ⟨tg1, iter1, [], 0⟩] scope pos) (lcomp2 (own.map (·.2)) vs1 d g d1 g1 de) := by
  refine ⟨fun pins s σ H Q I h => ?_⟩
  exact (pe_lc2 (elt := elt) (te := tE C.X.K C.cl (fun _ _ _ _ => False) de) (tt := tT C.X.K C.cl (fun _ _ _ _ => False) (ret true)) (tt1 := tT C.X.K C.cl (fun _ _ _ _ => False) (ret true)) (wi1 := tI C.X.K C.cl (fun _ _ _ _ => False) d1) (g := tGt C.X.K C.cl (oth σ.length (own.map fun p : Str × Nat => p.2)) g) (g1 := tGt C.X.K C.cl (oth σ.length vs1) g1) (vs1 := vs1) C.calm C.nd hi B.ok B.sub
    (fun s H L cls fp => B.tg s H L cls fp _) (fun _ _ _ _ _ => tt_nil) B.it (fun s H L cls fp => B.tg1 s H L cls fp _) (fun _ _ _ _ _ => tt_nil) B.el hs hs1).run pins s σ H Q I (lc_imp2 rfl B.sub h)
theorem s_setLc2 {i : Nat} {y : Str} (hy : C.X.N[i]? = some y) (hyl : C.X.env.scope.names.lookup y = some .local) (hsw : swapsWith (.ListComp elt [⟨tg, iter, [], 0⟩, ⟨tg1, iter1, [], 0⟩] scope pos) (some (.Name y py)) spos.line C.X.env = pure true)
    (B : Blk2 C elt tg tg1 iter1 scope own vs1 g d1 g1 de) (hi : DI C tg iter d) (hs : ∀ x, foldedSetIterable iter C.X.env x = pure x := by intro _; rfl) (hs1 : ∀ env x, foldedSetIterable iter1 env x = pure x := by intro _ _; rfl) :
    DS C lk (.Assign [.Name y py] (.ListComp elt [⟨tg, iter, [], 0⟩, ⟨tg1, iter1, [], 0⟩] scope pos) spos) (sset i (lcomp2 (own.map (·.2)) vs1 d g d1 g1 de)) := by
  refine ⟨fun pins s σ H D I h => ?_⟩
  refine (ps_setLc2 (te := tE C.X.K C.cl (fun _ _ _ _ => False) de) (tt := tT C.X.K C.cl (fun _ _ _ _ => False) (ret true)) (tt1 := tT C.X.K C.cl (fun _ _ _ _ => False) (ret true)) (wi1 := tI C.X.K C.cl (fun _ _ _ _ => False) d1) (g := tGt C.X.K C.cl (oth σ.length (own.map fun p : Str × Nat => p.2)) g) (g1 := tGt C.X.K C.cl (oth σ.length vs1) g1) (vs1 := vs1) C.calm C.nd hy hyl hsw hi B.ok B.sub
    (fun s H L cls fp => B.tg s H L cls fp _) (fun _ _ _ _ _ => tt_nil) B.it (fun s H L cls fp => B.tg1 s H L cls fp _) (fun _ _ _ _ _ => tt_nil) B.el hs hs1).run pins s σ H D I ?_
  obtain ⟨F, ρ, n, sl, wf, q⟩ := h
  refine lc_imp2 (C := C) (own := own) rfl B.sub ⟨F, ρ, n, sl, wf, q.bnd.imp fun r ρ1 q => ?_⟩
  intro v F1 H1 m n1 ro sl1 wf1 ex1
  unfold sput at q
  split at q
  · rename_i h
    exact put_ok q ro sl1 wf1 ex1 Lk.refl h.1 h.2
  · exact q.elim
end
/-- a tuple that the module keeps -/
theorem e_globD {C : Cf} {x : Str} {pos : Pos} {d : D} (hm : ∃ (v : V) (u : Value), C.X.mg x = some u ∧ RelV v u ∧ ∀ (F : Addr → Prop) (H : Hp), R C.X.K C.cl F H d v) (hg : Gl C.X x) (hd : (x == ("__debug__" : Str)) = false := by decide) : DE C (.Name x pos) (ret d) := by
  obtain ⟨v, u, h1, h2, h3⟩ := hm
  exact e_glob hg h1 h2 h3 hd
end KR

set_option Elab.async false
set_option linter.all false
set_option maxRecDepth 100000
set_option maxHeartbeats 2000000
/-! Tuples of which it is known that they have no dict: their methods (index). -/
namespace KR
open PySem L2 PyProof.Rows
/-- a tuple of that kind -/
def NT (K : PySem.W.Frag) (cl : Nat → Addr) (F : Addr → Prop) (H : Hp) (xs : List D) (v : V) : Prop := ∃ (a : Addr) (vs : List V) (o : Obj), v = .ref a ∧ F a ∧ o.dict = none ∧ H a = some (.frz o (.tup vs)) ∧ RL K cl F H xs vs
section
variable {K : PySem.W.Frag} {cl : Nat → Addr} {W : WX} {F F' : Addr → Prop} {H H' : Hp} {n n' : Addr → Nat} {σ : L2.St} {Q : VK} {xs : List D} {v : V} {ρ : Env}
theorem NT.r (h : NT K cl F H xs v) : R K cl F H (.tup xs) v := by
  obtain ⟨a, vs, o, rfl, hF, _, h2, rl⟩ := h
  exact ⟨a, vs, rfl, .inl ⟨hF, .inr ⟨o, h2⟩⟩, rl⟩
theorem NT.ext (h : NT K cl F H xs v) (w : WF F H n) (e : Ext F H n F' H' n') : NT K cl F' H' xs v := by
  obtain ⟨a, vs, o, rfl, hF, ho, h2, rl⟩ := h
  exact ⟨a, vs, o, rfl, e.fz a hF, ho, by rw [frame_eq w e a hF]; exact h2, rl.ext w e⟩
theorem NT.sq (h : NT K cl F H xs v) : ∃ a vs, v = .ref a ∧ SqT K H a vs ∧ RL K cl F H xs vs := by
  obtain ⟨a, vs, o, rfl, hF, _, h2, rl⟩ := h
  exact ⟨a, vs, rfl, .inl (.inr ⟨o, h2⟩), rl⟩
def pNt (K : PySem.W.Frag) (cl : Nat → Addr) (F : Addr → Prop) (H : Hp) (n : Addr → Nat) (σ : L2.St) (Q : VK) : List D → Env → Prop := fun xs ρ' =>
  ∀ (v : V) (F' : Addr → Prop) (H' : Hp) (n' : Addr → Nat), NT K cl F' H' xs v → SL K cl F' H' ρ' σ n' → WF F' H' n' → Ext F H n F' H' n' → Q v H'
def tN (K : PySem.W.Frag) (cl : Nat → Addr) (W : WX) (d : M (List D)) : TE := fun σ H Q => ∃ (F : Addr → Prop) (ρ : Env) (n : Addr → Nat), SL K cl F H ρ σ n ∧ WF F H n ∧ Mt K cl W F H n σ (d ρ) (pNt K cl F H n σ Q)
theorem pNt.step {ρ' : Env} (w : WF F H n) (e : Ext F H n F' H' n') (h : pNt K cl F H n σ Q xs ρ') : pNt K cl F' H' n' σ Q xs ρ' := fun v F2 H2 n2 r s wf ex => h v F2 H2 n2 r s wf (e.trans w ex)
theorem pNt.here (q : pNt K cl F H n σ Q xs ρ) (r : NT K cl F H xs v) (sl : SL K cl F H ρ σ n) (wf : WF F H n) : Q v H := q v F H n r sl wf Ext.refl
theorem pNt.new {vs : List V} {p : Addr} {o : Obj} (q : pNt K cl F H n σ Q xs ρ) (hp : H p = none) (ho : o.dict = none) (sl : SL K cl F H ρ σ n) (wf : WF F H n) (r : RL K cl F H xs vs) : Q (.ref p) (upd H p (.frz o (.tup vs))) := by
  obtain ⟨w2, e2⟩ := new_frz (o := .frz o (.tup vs)) wf hp
  exact q _ _ _ n ⟨p, vs, o, rfl, .inr rfl, ho, upd_same, r.new hp wf⟩ (sl.ext wf (fun a h => .inl h) fun a h => upd_ne fun e => h (by rw [e]; exact hp)) w2 e2
end
/-! ### how they come -/
section
variable {X : Cx} {es : List Expr} {t : TA} {pos : Pos}
def tTupN (t : TA) : TE := fun σ H Q => t σ H fun xs H1 => xs.length ≤ sizeLine ∧ ∀ (p : Addr) (o : Obj), H1 p = none → o.dict = none → Q (.ref p) (upd H1 p (.frz o (.tup xs)))
theorem pe_tupN {x1} (h : PA X es t) : PE X (.Tuple es x1 pos) (tTupN t) := by
  refine ⟨fun pins s σ H Q I hq => ?_⟩
  refine wpAny_Tuple_spliced (thn (h.run pos pins s σ H _ I hq) fun us s1 ⟨xs, H1, I1, r, z, q⟩ => ⟨by rw [← r.length]; exact z, ?_⟩)
  have hf : H1 s1.heap.objs.size = none := I1.hok.fresh (Nat.le_refl _)
  refine ⟨.ref s1.heap.objs.size, upd H1 s1.heap.objs.size (.frz { cls := .type "tuple", data := .seq us.toArray } (.tup xs)), I1.laid (t' := s1.toks) (fun b u e => Heap.get?_push_of_some _ e) (Nat.le_refl _) ?_, rfl, q _ _ hf rfl⟩
  exact ⟨Heap.get?_push_size _ rfl, z, us, r, ⟨_, Heap.get?_push_size _ rfl, rfl, _, rfl⟩⟩
def rCatN (K : PySem.W.Frag) : R2 := fun x y H Q => ∃ a b xs ys, x = .ref a ∧ y = .ref b ∧ SqT K H a xs ∧ SqT K H b ys ∧ xs.length + ys.length ≤ sizeLine ∧
  (xs = [] → Q (.ref b) H) ∧ (xs ≠ [] → ys = [] → Q (.ref a) H) ∧ (xs ≠ [] → ys ≠ [] → ∀ (p : Addr) (o : Obj), H p = none → o.dict = none → Q (.ref p) (upd H p (.frz o (.tup (xs ++ ys)))))
theorem op_catN : OpR X (binaryOp .Add) (rCatN X.K) := by
  intro pins s σ H x y v u Q I rx ry h
  obtain ⟨a, b, xs, ys, rfl, rfl, ha, hb, hz, q0, q1, q2⟩ := h
  by_cases hx : xs = []
  · subst hx
    cases rx
    cases ry
    obtain ⟨its, r1, p1, _⟩ := I.tuple ha
    obtain ⟨its2, r2, p2, _⟩ := I.tuple hb
    cases r1
    exact cat_tup0 p1 p2 ⟨.ref b, H, I, rfl, q0 rfl⟩
  · cases rx
    cases ry
    obtain ⟨its, r1, p1, _⟩ := I.tuple ha
    obtain ⟨its2, r2, p2, _⟩ := I.tuple hb
    refine HT.cat_tup p1 p2 (fun z => hx (r1.nil_iff.mp z)) (fun z => ⟨.ref a, H, I, rfl, q1 hx (r2.nil_iff.mp z)⟩) (fun z => ?_) (by rw [← r1.length, ← r2.length]; exact hz)
    refine ⟨.ref s.heap.objs.size, _, I.laid (t' := s.toks) (o := .frz { cls := .type "tuple", data := .seq (its ++ its2).toArray } (.tup (xs ++ ys))) (fun b ob q => Heap.get?_push_of_some _ q) (Nat.le_refl _) ?_, rfl, q2 hx (fun w => z (r2.nil_iff.mpr w)) _ _ (I.hok.fresh (Nat.le_refl _)) rfl⟩
    exact ⟨Heap.get?_push_size _ rfl, by rw [List.length_append]; exact hz, _, r1.append r2, IsTup.new _ _⟩
def rSlN (K : PySem.W.Frag) : V → Option Int → Option Int → Hp → VK → Prop := fun x lo hi H Q => ∃ a xs, x = .ref a ∧ SqT K H a xs ∧
  (HT.sIx xs.length 0 lo = 0 ∧ HT.sIx xs.length xs.length hi = xs.length → Q (.ref a) H) ∧ (¬ (HT.sIx xs.length 0 lo = 0 ∧ HT.sIx xs.length xs.length hi = xs.length) → ∀ (p : Addr) (o : Obj), H p = none → o.dict = none → Q (.ref p) (upd H p (.frz o (.tup (cutV xs lo hi)))))
theorem sl_tupN : SlR X (rSlN X.K) := by
  intro pins s σ H x v vl vu lo hi sl Q I rx hs pl pu h
  obtain ⟨a, xs, rfl, hx, q1, q2⟩ := h
  cases rx
  obtain ⟨its, r, ht, hz⟩ := I.tuple hx
  have hlen : its.toArray.size = xs.length := by rw [List.size_toArray]; exact r.length.symm
  refine ⟨"tuple", _, PyProof.Rows.slot_tuple_getitem.lookup, ht.typeIs, ?_⟩
  by_cases hw : HT.sIx xs.length 0 lo = 0 ∧ HT.sIx xs.length xs.length hi = xs.length
  · exact getItem_tuple_whole ht hs pl pu (by rw [hlen]; exact hw) ⟨.ref a, H, I, rfl, q1 hw⟩
  · refine HT.getItem_tuple_cut ht hs pl pu (by rw [hlen]; exact hw) ?_ (by rw [hlen]; exact hz)
    rw [hlen]
    exact ⟨.ref s.heap.objs.size, _, I.laid (t' := s.toks) (o := .frz _ (.tup (cutV xs lo hi))) (fun b ob q => Heap.get?_push_of_some _ q) (Nat.le_refl _)
      ⟨Heap.get?_push_size _ rfl, Nat.le_trans (cutV_length xs lo hi) hz, _, (r.drop (HT.sIx xs.length 0 lo)).take (HT.sIx xs.length xs.length hi - HT.sIx xs.length 0 lo), IsTup.new _ _⟩, rfl, q2 hw _ _ (I.hok.fresh (Nat.le_refl _)) (by rfl)⟩
theorem call_tuple_ofN : CallR X (.type "tuple") (fun xs H Q => ∃ p ys, xs = [.ref p] ∧ SqL X.K H p ys ∧ ∀ (l : Addr) (o : Obj), H l = none → o.dict = none → Q (.ref l) (upd H l (.frz o (.tup ys)))) := by
  intro pins s σ H xs us Q I r h
  obtain ⟨p, ys, rfl, hq, q⟩ := h
  obtain ⟨u, rfl, rx⟩ := vals1 r
  cases rx
  obtain ⟨its, r', pl, hz⟩ := I.list hq
  have hlen := r'.length
  refine call_tuple_list pl.isList (fun h' kp => ?_) (by simp only [List.size_toArray] <;> omega)
  have I1 : L2.Inv X pins σ H { s with heap := h' } := I.kept (t' := s.toks) kp
  have I2 : L2.Inv X pins σ (upd H h'.objs.size (.frz { cls := .type "tuple", data := .seq its.toArray } (.tup ys))) { s with heap := h'.push { cls := .type "tuple", data := .seq its.toArray } } :=
    I1.laid (t' := s.toks) (fun b o e => Heap.get?_push_of_some _ e) (Nat.le_refl _) (show ObjOk X.prog X.w _ _ _ (.frz _ (.tup ys)) from ⟨Heap.get?_push_size _ rfl, hz, its, r', IsTup.new _ _⟩)
  exact ⟨.ref h'.objs.size, _, I2, rfl, q _ _ (I1.hok.fresh (Nat.le_refl _)) rfl⟩
end
/-! ### index -/
/-- the first equal one -/
def gtidx (xs : List D) (y : D) : Option Nat := match D.pys xs, D.py y with
  | some qs, some p => if SeqAt.shaped (.list qs) = true ∧ SeqAt.shaped p = true then qs.findIdx? fun q => PyData.eqv q p else none
  | _, _ => none
section
variable {X : Cx} {o e : Expr} {es : List Expr} {to : TE} {t : TA} {apos cpos : Pos} {r : V → List V → Hp → VK → Prop}
/-- of that kind, as the heap holds it -/
def isNt (x : V) (H : Hp) : Prop := ∃ (a : Addr) (vs : List V) (ob : Obj), x = .ref a ∧ ob.dict = none ∧ H a = some (.frz ob (.tup vs))
def tBT (r : V → List V → Hp → VK → Prop) (to : TE) (t : TA) : TE := fun σ H Q => to σ H fun x H1 => isNt x H1 ∧ t σ H1 fun xs H2 => r x xs H2 Q
theorem pe_bmT (hm : MtR X "tuple.index" r) (ho : PE X o to) (ha : PA X (e :: es) t)
    (hbase : attributeBase o "index" X.env (eval o X.env) = eval o X.env := by rfl)
    (hfew : ((backTo cpos (starEach (e :: es) X.env)).all (fun x => !x.1) && (backToKw cpos (keywordEach [] X.env)).all (fun x => x.1.isSome)
      && decide ((e :: es).length + ([] : List Keyword).length + (if ([] : List Keyword).isEmpty then 0 else 1) < 30)) = true := by rfl)
    (hline : (apos.endLine == cpos.line) = true := by rfl) (hs : starEach (e :: es) X.env = (false, eval e X.env) :: starEach es X.env := by rfl) (hplain : (backTo cpos (starEach es X.env)).any (·.1) = false := by rfl) :
    PE X (.Call (.Attribute o "index" apos) (e :: es) [] cpos) (tBT r to t) := by
  refine ⟨fun pins s σ H Q I h => ?_⟩
  refine wpAny_Call_method_late hbase hfew hline rfl (thn (ho.run pins s σ H _ I h) fun v s1 ⟨x, H1, I1, r1, ty, q1⟩ => ?_)
  obtain ⟨a, vs, ob, rfl, hd, hH⟩ := ty
  cases r1
  have hok := I1.hok a _ hH
  obtain ⟨hob, hz, its, hv, ht⟩ := hok
  have h1 : s1.TypeIs (.ref a) "tuple" := by
    obtain ⟨o', ho', hc, _⟩ := ht
    exact ⟨o', ho', hc⟩
  refine ⟨"tuple", "tuple.index", PySem.F.plainAttrs_tuple, PySem.F.slot_tuple_index, PySem.F.type_tuple_index, h1, (fun b e => by cases e; exact ⟨ob, hob, hd⟩), ?_⟩
  have hA := ha.run cpos pins s1 σ H1 _ I1 q1
  rw [hs] at hA ⊢
  refine Calls.callWith_builtin (by show (false || (backTo cpos (starEach es X.env)).any (·.1)) = false; rw [hplain] <;> rfl) (Calls.evalArgs_plain ?_)
  exact thn hA fun us s2 ⟨vs', H2, I2, r2, q2⟩ => hm pins s2 σ H2 (.ref a) vs' (.ref a) us Q I2 rfl r2 q2
def rIndexT (K : PySem.W.Frag) : V → List V → Hp → VK → Prop := fun x xs H Q => ∃ (a : Addr) (y : V) (d : PyData) (ds : List PyData) (j : Nat) (z : PyData), x = V.ref a ∧ xs = [y] ∧ Dp K H (V.ref a) (.tuple ds) ∧ Dp K H y d ∧
  SeqAt.shaped (.list ds) = true ∧ SeqAt.shaped d = true ∧ ds[j]? = some z ∧ PyData.eqv z d = true ∧ (∀ (m : Nat) (z' : PyData), m < j → ds[m]? = some z' → PyData.eqv z' d = false) ∧ Q (.int (j : Nat)) H
theorem mt_indexT (hu : X.A.units + 65 < cLine) : MtR X "tuple.index" (rIndexT X.K) := by
  intro pins s σ H x xs v us Q I rx rxs h
  obtain ⟨a, y, d, ds, j, z, rfl, rfl, hl, hy, sl, sd, hz, hzj, hno, q⟩ := h
  cases rx
  cases rxs with
  | cons ry rt =>
    rename_i uy ut
    cases rt
    obtain ⟨bs, r1⟩ := Dp.reads I d y uy hy ry
    have hxs : PyData.canLayAll0 ds = true := SeqAt.canLay_of_shaped sl
    have hroom : X.A.units + 1 + min (PyData.depthAll ds) d.depth < cLine := room_in_shaped sd hu
    cases hl with
    | tup hs ha =>
      obtain ⟨its, rv, ⟨⟨cls, dd, data, sls⟩, ho, hc, n, hdt⟩, hlen⟩ := I.tuple hs
      simp only at hc hdt
      subst hc hdt
      obtain ⟨as, h4⟩ := Dp.readsAll I ds _ its ha rv
      have hn : its.length = ds.length := SeqAt.ReadsAll.length ds its as h4
      have hmap : its.map (SeqAt.readOf s.heap) = ds := SeqAt.readsAll_map ds its as hxs h4
      obtain ⟨hjd, _⟩ := List.getElem?_eq_some_iff.mp hz
      have hjl : j < its.length := by omega
      have hj : j < its.toArray.size := by simpa using hjl
      have at_ : ∀ (m : Nat) (hm : m < its.toArray.size) (z' : PyData), ds[m]? = some z' → SeqAt.readOf s.heap its.toArray[m] = z' := by
        intro m hm z' hz'
        have hml : m < its.length := by simpa using hm
        rw [← hmap, List.getElem?_map, List.getElem?_eq_getElem hml] at hz'
        have e1 : SeqAt.readOf s.heap its[m] = z' := Option.some.inj (show some (SeqAt.readOf s.heap its[m]) = some z' from hz')
        simpa using e1
      refine call_meets PySem.F.slot_tuple_index ⟨_, ho, rfl⟩ PySem.F.entry_tuple_index (PySem.F.args_tuple_index_2 _ _)
        (TI.tuple_indexAt a its.toArray n dd sls uy (fun u => PyData.eqv (SeqAt.readOf s.heap u) d) j hj ?_ ?_) ⟨ho, SeqAt.items_eqAt (vs := its.toArray) (show ReadsAll s.heap its.toArray.toList ds as from h4) r1 hxs (SeqAt.canLay_of_shaped sd) hroom, ?_⟩
      · show PyData.eqv (SeqAt.readOf s.heap its.toArray[j]) d = true
        rw [at_ j hj z hz]
        exact hzj
      · intro m hm hmj
        have hmd : m < ds.length := by
          have : m < its.length := by simpa using hm
          omega
        have hz' : ds[m]? = some ds[m] := List.getElem?_eq_getElem hmd
        show PyData.eqv (SeqAt.readOf s.heap its.toArray[m]) d = false
        rw [at_ m hm _ hz']
        exact hno m _ hmj hz'
      · exact ⟨.int (j : Nat), H, I.tok _, ⟨_, rfl⟩, q⟩
end
/-! ### expressions that tell one -/
def DN (C : Cf) (e : Expr) (d : M (List D)) : Prop := PE C.X e (tN C.X.K C.cl C.W d)
section
variable {C : Cf} {a b e : Expr} {da db : M (List D)} {de : M D} {pos apos : Pos}
def ofN (d : M (List D)) : M D := bnd d fun xs => ret (.tup xs)
def nice (d : M (List D)) : M RV := bnd d fun xs => ret (.otup xs)
theorem e_ofN (h : DN C a da) : DE C a (ofN da) := by
  refine PE.imp h fun σ H Q ⟨F, ρ, n, sl, wf, q⟩ => ⟨F, ρ, n, sl, wf, q.bnd.imp fun r ρ' q => ?_⟩
  intro v F' H' n' hn sl' wf' ex
  exact q v F' H' n' hn.r sl' wf' ex
theorem o_nice (h : DN C a da) : DO C a (nice da) := by
  refine PE.imp h fun σ H Q ⟨F, ρ, n, sl, wf, q⟩ => ⟨F, ρ, n, sl, wf, q.bnd.imp fun r ρ' q => ?_⟩
  intro v F' H' n' hn sl' wf' ex
  exact q v F' H' (fun _ => 0) n' ⟨hn, fun _ => rfl⟩ sl' (wf'.congr fun _ => by show 0 + _ = _; omega) (ex.congr (fun _ => rfl) fun _ => by show 0 + _ = _; omega)
def getn (i : Nat) : M (List D) := fun ρ => match ρ[i]? with
  | some (some (.otup xs)) => some (.ok xs, ρ)
  | _ => none
theorem n_name {i : Nat} {x : Str} (h : PE C.X (.Name x pos) (tVar i)) : DN C (.Name x pos) (getn i) := by
  refine PE.imp h fun σ H Q ⟨F, ρ, n, sl, wf, q⟩ => ?_
  unfold getn at q
  split at q
  · rename_i xs e
    obtain ⟨v, n1, n2, ev, ro, hn, put⟩ := SL.get sl e
    exact ⟨v, ev, q v F H n ro.1 sl wf Ext.refl⟩
  · exact q.elim
def ntup (ds : M (List D)) : M (List D) := bnd ds fun xs => lift (if xs.length ≤ sizeLine then some xs else none)
theorem n_tup {es : List Expr} {ds : M (List D)} {k} (h : DA C es ds) : DN C (.Tuple es k pos) (ntup ds) := by
  refine PE.imp (pe_tupN h) fun σ H Q ⟨F, ρ, n, sl, wf, q⟩ => ⟨F, ρ, n, sl, wf, q.bnd.imp fun xs ρ1 q => ?_⟩
  obtain ⟨z, e, q⟩ := Mt_lift q
  intro vs F1 H1 n1 rs sl1 wf1 ex1
  split at e
  · rename_i hz
    cases e
    exact ⟨by rw [rs.length]; exact hz, fun p o hp ho => (q.step wf ex1).new hp ho sl1 wf1 rs⟩
  · cases e
/-- tuple(a list) -/
def ntl : List D → Option (List D)
  | [.lst xs] => some xs
  | [.lsr xs] => some xs
  | _ => none
def ntlM (ds : M (List D)) : M (List D) := bnd ds fun xs => lift (ntl xs)
theorem n_tuple {x : Str} {p : Pos} {es : List Expr} {ds : M (List D)} (hg : Gl C.X x) (hm : C.X.mg x = none) (hv : bootBuiltins x = some (.type "tuple")) (ha : DA C (a :: es) ds)
    (hn : x ≠ "__name__" := by decide) (hdb : (x == ("__debug__" : Str)) = false := by decide)
    (he : starEach (a :: es) C.X.env = (false, eval a C.X.env) :: starEach es C.X.env := by rfl) (hpl : (backTo pos (starEach es C.X.env)).any (·.1) = false := by rfl) : DN C (.Call (.Name x p) (a :: es) [] pos) (ntlM ds) := by
  refine PE.imp (pe_callTy call_tuple_ofN hg hm hv ha hn hdb he hpl) fun σ H Q ⟨F, ρ, n, sl, wf, q⟩ => ⟨F, ρ, n, sl, wf, q.bnd.imp fun xs ρ1 q => ?_⟩
  obtain ⟨z, e, q⟩ := Mt_lift q
  intro vs F1 H1 n1 rs sl1 wf1 ex1
  have q2 : pNt C.X.K C.cl F1 H1 n1 σ Q z ρ1 := pNt.step wf ex1 q
  unfold ntl at e
  split at e
  · rename_i xs
    cases e
    obtain ⟨v, rfl, rx⟩ := rs.one
    obtain ⟨a, ws, rfl, _, ht, rl⟩ := rx
    exact ⟨a, ws, rfl, SqL.of ht, fun p o hp ho => q2.new hp ho sl1 wf1 rl⟩
  · rename_i xs
    cases e
    obtain ⟨v, rfl, rx⟩ := rs.one
    obtain ⟨a, ws, rfl, ht, rl⟩ := rx
    exact ⟨a, ws, rfl, ht.seq, fun p o hp ho => q2.new hp ho sl1 wf1 rl⟩
  · cases e
/-- a + b -/
def ncat (da db : M (List D)) : M (List D) := bnd da fun xs => bnd db fun ys => lift (if xs.length + ys.length ≤ sizeLine then some (xs ++ ys) else none)
theorem n_cat (ha : DN C a da) (hb : DN C b db) : DN C (.BinOp a .Add b pos) (ncat da db) := by
  refine PE.imp (pe_op op_catN ha hb) fun σ H Q ⟨F, ρ, n, sl, wf, q⟩ => ⟨F, ρ, n, sl, wf, q.bnd.imp fun xs ρ1 q => ?_⟩
  intro vx F1 H1 n1 hx sl1 wf1 ex1
  refine ⟨F1, ρ1, n1, sl1, wf1, q.bnd.step wf ex1 fun ys ρ2 q => ?_⟩
  intro vy F2 H2 n2 hy sl2 wf2 ex2
  have ex := ex1.trans wf ex2
  obtain ⟨z, e, q⟩ := Mt_lift q
  split at e
  · rename_i hz
    cases e
    have q : pNt C.X.K C.cl F2 H2 n2 σ Q (xs ++ ys) ρ2 := q.step wf ex
    have hx2 := hx.ext wf1 ex2
    have hx3 := hx2
    have hy3 := hy
    obtain ⟨a, vs, rfl, qa, ra⟩ := hx2.sq
    obtain ⟨b, us, rfl, qb, rb⟩ := hy.sq
    have l1 := ra.length
    have l2 := rb.length
    refine ⟨a, b, vs, us, rfl, rfl, qa, qb, by omega, fun z => ?_, fun z1 z2 => ?_, fun z1 z2 p o hp ho => ?_⟩
    · subst z
      have : xs = [] := List.eq_nil_of_length_eq_zero l1.symm
      subst this
      exact q.here hy3 sl2 wf2
    · subst z2
      have : ys = [] := List.eq_nil_of_length_eq_zero l2.symm
      subst this
      rw [List.append_nil] at q
      exact q.here hx3 sl2 wf2
    · exact q.new hp ho sl2 wf2 (ra.append rb)
  · cases e
/-- a[lo:hi] -/
def ncut (d : M (List D)) (lo hi : M (Option Int)) : M (List D) := bnd d fun xs => bnd lo fun i => bnd hi fun j => ret (cutD xs i j)
theorem n_sl {lo hi : Option Expr} {dl dh : M (Option Int)} {p2 : Pos} (ha : DN C a da) (hl : DP C lo dl) (hh : DP C hi dh) : DN C (.Subscript a (.Slice lo hi none p2) pos) (ncut da dl dh) := by
  refine PE.imp (pe_slice sl_tupN ha hl hh) fun σ H Q ⟨F, ρ, n, sl, wf, q⟩ => ⟨F, ρ, n, sl, wf, q.bnd.imp fun xs ρ1 q => ?_⟩
  intro vx F1 H1 n1 hx sl1 wf1 ex1
  refine ⟨F1, ρ1, n1, sl1, wf1, q.bnd.step wf ex1 fun i ρ2 q => ?_⟩
  intro F2 H2 n2 sl2 wf2 ex2
  have ex := ex1.trans wf ex2
  refine ⟨F2, ρ2, n2, sl2, wf2, q.bnd.step wf ex fun j ρ3 q => ?_⟩
  intro F3 H3 n3 sl3 wf3 ex3
  have q : pNt C.X.K C.cl F3 H3 n3 σ Q (cutD xs i j) ρ3 := pNt.step wf (ex.trans wf ex3) q
  have hx3 := (hx.ext wf1 ex2).ext wf2 ex3
  have hx4 := hx3
  obtain ⟨a, vs, rfl, qa, ra⟩ := hx3.sq
  refine ⟨a, vs, rfl, qa, fun hw => ?_, fun _ p o hp ho => q.new hp ho sl3 wf3 (ra.cut i j)⟩
  have l := ra.length
  have ec : cutD xs i j = xs := by
    unfold cutD
    rw [← l, hw.1, hw.2]
    simp [l]
  rw [ec] at q
  exact q.here hx4 sl3 wf3
theorem n_if {c : Expr} {t : M Bool} (hc : DT C c t) (ha : DN C a da) (hb : DN C b db) : DN C (.IfExp c a b pos) (ite' t da db) := by
  refine PE.imp (pe_ifExp hc ha hb) fun σ H Q ⟨F, ρ, n, sl, wf, q⟩ => ⟨F, ρ, n, sl, wf, q.bnd.imp fun k ρ1 q => ?_⟩
  intro F1 H1 n1 sl1 wf1 ex1
  cases k with
  | true => exact ⟨F1, ρ1, n1, sl1, wf1, Mt.step wf ex1 q fun a ρ' q => q.step wf ex1⟩
  | false => exact ⟨F1, ρ1, n1, sl1, wf1, Mt.step wf ex1 q fun a ρ' q => q.step wf ex1⟩
def ntidx (d : M (List D)) (de : M D) : M D := bnd d fun xs => bnd de fun y => lift ((gtidx xs y).map fun j => .int (j : Nat))
theorem e_tindex (ho : DN C a da) (ha : DE C e de) (hu : C.X.A.units + 65 < cLine)
    (hbase : attributeBase a "index" C.X.env (eval a C.X.env) = eval a C.X.env := by rfl)
    (hfew : ((backTo pos (starEach [e] C.X.env)).all (fun x => !x.1) && (backToKw pos (keywordEach [] C.X.env)).all (fun x => x.1.isSome)
      && decide (([e] : List Expr).length + ([] : List Keyword).length + (if ([] : List Keyword).isEmpty then 0 else 1) < 30)) = true := by rfl)
    (hline : (apos.endLine == pos.line) = true := by rfl) (hs : starEach [e] C.X.env = (false, eval e C.X.env) :: starEach [] C.X.env := by rfl) (hplain : (backTo pos (starEach [] C.X.env)).any (·.1) = false := by rfl) :
    DE C (.Call (.Attribute a "index" apos) [e] [] pos) (ntidx da de) := by
  refine PE.imp (pe_bmT (mt_indexT hu) ho (pa_cons ha pa_nil hs) hbase hfew hline hs hplain) fun σ H Q ⟨F, ρ, n, sl, wf, q⟩ => ⟨F, ρ, n, sl, wf, q.bnd.imp fun xs ρ1 q => ?_⟩
  intro vx F1 H1 n1 hx sl1 wf1 ex1
  have hx0 := hx
  obtain ⟨a, vs, o, rfl, hF, hd, hH, rl⟩ := hx
  refine ⟨⟨a, vs, o, rfl, hd, hH⟩, F1, ρ1, n1, sl1, wf1, q.bnd.step wf ex1 fun y ρ2 q => ?_⟩
  intro vy F2 H2 n2 ry sl2 wf2 ex2
  obtain ⟨z, ez, q⟩ := Mt_lift q
  have hx2 := hx0.ext wf1 ex2
  unfold gtidx at ez
  split at ez
  · rename_i qs p e1 e2
    split at ez
    · rename_i hsh
      cases hf : qs.findIdx? (fun q => PyData.eqv q p) with
      | none => rw [hf] at ez; cases ez
      | some j =>
        rw [hf] at ez
        have ez : some (D.int (j : Nat)) = some z := ez
        cases ez
        obtain ⟨hj, h1, h2⟩ := List.findIdx?_eq_some_iff_getElem.mp hf
        have dp : Dp C.X.K H2 (.ref a) (.tuple qs) := R.dp hx2.r (by rw [D.py, e1]; rfl)
        refine ⟨a, vy, p, qs, j, qs[j], rfl, rfl, dp, R.dp ry e2, hsh.1, hsh.2, List.getElem?_eq_getElem hj, h1, fun m z' hm hz' => ?_, ?_⟩
        · obtain ⟨hml, ez⟩ := List.getElem?_eq_some_iff.mp hz'
          have := h2 m hm
          rw [ez] at this
          simpa using this
        · exact q _ F2 H2 n2 rfl sl2 wf2 (ex1.trans wf ex2)
    · cases ez
  · cases ez
end
section
variable {ρ : Env}
@[simp] theorem ofN_ap {d : M (List D)} : ofN d ρ = bnd d (fun xs => ret (.tup xs)) ρ := rfl
@[simp] theorem nice_ap {d : M (List D)} : nice d ρ = bnd d (fun xs => ret (RV.otup xs)) ρ := rfl
@[simp] theorem getn_ap {i : Nat} : getn i ρ = match ρ[i]? with
  | some (some (.otup xs)) => some (.ok xs, ρ)
  | _ => none := rfl
@[simp] theorem ntup_ap {ds : M (List D)} : ntup ds ρ = bnd ds (fun xs => lift (if xs.length ≤ sizeLine then some xs else none)) ρ := rfl
@[simp] theorem ntlM_ap {ds : M (List D)} : ntlM ds ρ = bnd ds (fun xs => lift (ntl xs)) ρ := rfl
@[simp] theorem ntl_lst {xs : List D} : ntl [.lst xs] = some xs := rfl
@[simp] theorem ncat_ap {da db : M (List D)} : ncat da db ρ = bnd da (fun xs => bnd db fun ys => lift (if xs.length + ys.length ≤ sizeLine then some (xs ++ ys) else none)) ρ := rfl
@[simp] theorem ncut_ap {d : M (List D)} {lo hi : M (Option Int)} : ncut d lo hi ρ = bnd d (fun xs => bnd lo fun i => bnd hi fun j => ret (cutD xs i j)) ρ := rfl
@[simp] theorem ntidx_ap {d : M (List D)} {de : M D} : ntidx d de ρ = bnd d (fun xs => bnd de fun y => lift ((gtidx xs y).map fun j => .int (j : Nat))) ρ := rfl
end
end KR

set_option Elab.async false
set_option linter.all false
set_option maxRecDepth 100000
set_option maxHeartbeats 2000000
/-! a text's find; a local dict of texts and numbers that is asked at once by get -/
namespace KR
open PySem L2 PyProof.Rows
def gfind : D → D → Option D
  | .str a, .str b => some (.int (Txt.find a b))
  | _, _ => none
def findD (a b : M D) : M D := bnd a fun x => match x with
  | .str s => bnd b fun y => lift (gfind (.str s) y)
  | _ => stuck
section
variable {C : Cf} {o e : Expr} {do' de : M D} {apos pos : Pos}
theorem e_find (ho : DE C o do') (he : DE C e de) (hs : starEach [e] C.X.env = (false, eval e C.X.env) :: starEach [] C.X.env := by rfl) (hbase : attributeBase o "find" C.X.env (eval o C.X.env) = eval o C.X.env := by rfl)
    (hfew : ((backTo pos (starEach [e] C.X.env)).all (fun x => !x.1) && (backToKw pos (keywordEach [] C.X.env)).all (fun x => x.1.isSome)
      && decide (([e] : List Expr).length + ([] : List Keyword).length + (if ([] : List Keyword).isEmpty then 0 else 1) < 30)) = true := by rfl)
    (hline : (apos.endLine == pos.line) = true := by rfl) (hplain : (backTo pos (starEach [] C.X.env)).any (·.1) = false := by rfl) :
    DE C (.Call (.Attribute o "find" apos) [e] [] pos) (findD do' de) := by
  refine PE.imp (pe_bm PySem.F.plainAttrs_str PySem.F.slot_str_find PySem.F.type_str_find mt_find ho (pa_cons he pa_nil hs) hbase hfew hline hs hplain) fun σ H Q ⟨F, ρ, n, sl, wf, q⟩ => ⟨F, ρ, n, sl, wf, q.bnd.imp fun x ρ1 q => ?_⟩
  intro v F1 H1 n1 rx sl1 wf1 ex1
  cases x with
  | str s =>
    have hv : v = .str s := rx
    subst hv
    refine ⟨rfl, F1, ρ1, n1, sl1, wf1, q.bnd.step wf ex1 fun y ρ2 q => ?_⟩
    intro u F2 H2 n2 ry sl2 wf2 ex2
    obtain ⟨z, ez, q⟩ := Mt_lift q
    cases y with
    | str t =>
      have hu : u = .str t := ry
      subst hu
      cases ez
      exact ⟨s, t, rfl, rfl, q _ F2 H2 n2 rfl sl2 wf2 (ex1.trans wf ex2)⟩
    | _ => cases ez
  | _ => exact q.elim
end
/-- {k: j, ..}.get(x, d) -/
def gget (tb : List (Str × Int)) (d0 : Int) : D → Option D
  | .str k => some (.int ((tb.lookup k).getD d0))
  | _ => none
/-- what stands there is forgotten -/
def sclr (i : Nat) : S := fun lk ρ => if i < ρ.length ∧ i ∉ lk then some (.ok .nx, ρ.set i none) else none
def kvT (tb : List (Str × Int)) : List (Key × V) := tb.map fun p => (.inr p.1, .int p.2)
def trT (tb : List (Str × Int)) : List (TE × TE) := tb.map fun p => (tC (.str p.1), tC (.int p.2))
theorem pairs_T {σ : L2.St} {H : Hp} {Q : List (V × V) → Hp → Prop} : ∀ tb : List (Str × Int), Q (tb.map fun p => (V.str p.1, V.int p.2)) H → tPairs (trT tb) σ H Q
  | [], q => q
  | (k, j) :: tb, q => pairs_T tb (Q := fun ps H3 => Q ((V.str k, V.int j) :: ps) H3) q
theorem val_T (k : Str) : ∀ tb : List (Str × Int), valV (kvT tb) (.inr k) = (tb.lookup k).map V.int
  | [] => rfl
  | (x, j) :: tb => by
    have ih := val_T k tb
    by_cases e : x = k
    · subst e
      rw [show kvT ((x, j) :: tb) = (.inr x, .int j) :: kvT tb from rfl, valV_pos rfl]
      simp [List.lookup]
    · rw [show kvT ((x, j) :: tb) = (.inr x, .int j) :: kvT tb from rfl, valV_neg (fun z => e (by injection z)), ih]
      have : (k == x) = false := by simpa using fun z => e z.symm
      simp [List.lookup, this]
section
variable {C : Cf} {lk : List Nat} {rest body : List Stmt} {a b : S}
theorem seq_ms {F : Addr → Prop} {H : Hp} {n : Addr → Nat} {σ : L2.St} {D : Ends} {ρ : Env} (q : Ms C.X.K C.cl C.W F H n lk σ D (seq a b lk ρ)) (w : WF F H n := by assumption) : Ms C.X.K C.cl C.W F H n lk σ { D with nx := tS C.X.K C.cl C.W lk b D } (a lk ρ) := by
  unfold seq at q
  unfold Ms
  cases h : a lk ρ with
  | none => rw [h] at q; exact q
  | some p =>
    obtain ⟨r, ρ'⟩ := p
    rw [h] at q
    cases r with
    | error x => exact q
    | ok f =>
      cases f with
      | nx => exact fun σ' F' H' n' sl wf ex l => ⟨F', ρ', n', sl, wf, Ms.step w ex l q⟩
      | bk => exact q
      | ct => exact q
      | ret x => exact q
theorem b_dget {i : Nat} {x : Str} {tb : List (Str × Int)} {d0 : Int} {keys : List (Option Expr)} {values : List Expr} {ke re : Expr} {dk dr : M D} {pos pos' dpos apos cpos npos ipos qpos rpos : Pos} {dj}
    (hi : C.X.N[i]? = some x) (hx : Loc C.X.env.scope x) (hv : Vis C.X.env.scope x) (hp : PPs C.X dpos keys values (trT tb)) (hm : mergeK [] (kvT tb) = kvT tb) (ht : tb.length ≤ 15)
    (hall : keys.all (·.isSome) = true) (hlen : keys.length = values.length) (h0 : keys ≠ []) (h15 : keys.length ≤ 15) (hu : C.X.A.units + 65 < cLine) (hk : DE C ke dk) (hr : DE C re dr) (hb : DB C lk body a) (hrest : DB C lk rest b)
    (ho : OpR C.X (compareOp .NotEq) (opR C.X.K C.cl gne)) (hmk : behindInMarks .NotEq re = false) (m : M2 C.X (.Name x npos) "get" apos ke (.Constant (.int d0) dj ipos) cpos)
    (hs : swapsWith (.Dict keys values dpos) (some (.Name x pos')) pos.line C.X.env = pure false := by rfl)
    (hf : C.X.fn x = true ∨ C.X.env.scope.names.lookup x = some .local := by first | exact .inl rfl | exact .inr rfl)
    (hd : (x == ("__debug__" : Str)) = false := by decide) (hcd : (x == ("__classdict__" : Str)) = false := by decide) :
    DB C lk (.Assign [.Name x pos'] (.Dict keys values dpos) pos :: .If (.Compare (.Call (.Attribute (.Name x npos) "get" apos) [ke, .Constant (.int d0) dj ipos] [] cpos) [.NotEq] [re] qpos) body [] rpos :: rest)
      (seq (sclr i) (seq (sif (tst (bin gne (una (gget tb d0) dk) dr)) a skip) b)) := by
  refine PSs.imp (pss_cons (ps_set C.nd hi hx (pe_disp hp hall hlen h0 h15) hs hf) (pss_cons (ps_if (pt_cmpR ho (pe_dget2 (by omega) (pe_var hi hv hd hcd) hk pe_int m) hr hmk) hb pss_nil) hrest)) fun D σ H ⟨F, ρ, n, sl, wf, q⟩ => ?_
  intro p hp0
  refine pairs_T tb ⟨upd_same, kvT tb, by unfold kvT; rw [List.map_map]; rfl, by unfold kvT; rw [List.length_map]; exact ht, ?_⟩
  rw [upd_upd, hm]
  unfold gName
  dsimp only
  obtain ⟨w1, e1⟩ := new_frz (o := .dK (kvT tb)) wf hp0
  have sl1 : SL C.X.K C.cl (fun a => F a ∨ a = p) (upd H p (.dK (kvT tb))) ρ σ n := sl.ext wf (fun a h => .inl h) fun a h => upd_ne fun e => h (by rw [e]; exact hp0)
  unfold seq sclr at q
  by_cases hc : i < ρ.length ∧ i ∉ lk
  · rw [if_pos hc] at q
    obtain ⟨n2, hn2, put⟩ := SL.put sl1 hc.1
    have sl2 : SL C.X.K C.cl (fun a => F a ∨ a = p) (upd H p (.dK (kvT tb))) (ρ.set i none) (σ.set i (some (.ref p))) (fun a => 0 + n2 a) := put (r' := none) (s' := some (.ref p)) (m := fun _ => 0) fun _ => rfl
    have w2 : WF (fun a => F a ∨ a = p) (upd H p (.dK (kvT tb))) (fun a => 0 + n2 a) := w1.sub fun a => by have := hn2 a; omega
    have e2 : Ext F H n (fun a => F a ∨ a = p) (upd H p (.dK (kvT tb))) (fun a => 0 + n2 a) := e1.sub fun a => by have := hn2 a; omega
    have l2 : Lk lk σ (σ.set i (some (.ref p))) := fun j hj => by
      have hne : i ≠ j := fun e => hc.2 (e ▸ hj)
      rw [List.getElem?_set_ne hne]
    have q2 := Ms.step wf e2 l2 q
    have hlen2 : i < σ.length := by rw [sl.length]; exact hc.1
    have hσ : (σ.set i (some (.ref p)))[i]? = some (some (.ref p)) := List.getElem?_set_self hlen2
    have hH : (upd H p (.dK (kvT tb))) p = some (.dK (kvT tb)) := upd_same
    have hn0 : (fun a => 0 + n2 a) p = 0 := Decidable.byContradiction fun z => w2.nf p z (.inr rfl)
    generalize σ.set i (some (.ref p)) = σ2 at sl2 l2 q2 hσ ⊢
    generalize upd H p (.dK (kvT tb)) = H2 at sl2 w2 e2 q2 hH ⊢
    generalize (fun a => F a ∨ a = p) = F2 at sl2 w2 e2 q2
    generalize (fun a => 0 + n2 a) = n3 at sl2 w2 e2 q2 hn0
    generalize ρ.set i none = ρ2 at sl2 q2
    have q3 := seq_ms q2
    clear q2 q put sl1 w1 e1
    have t1 := (Ms.bnd q3).bnd.bnd.bnd
    show ∃ v, σ2[i]? = some (some v) ∧ _
    refine ⟨.ref p, hσ, p, rfl, .inl ⟨_, .inl hH⟩, F2, ρ2, n3, sl2, w2, t1.imp fun k ρ3 q => ?_⟩
    intro vk F3 H3 m3 rk sl3 w3 e3
    obtain ⟨z, ez, q⟩ := Mt_lift q
    have hH3 := e3.frame p _ hH hn0
    cases k with
    | str s =>
      have hvk : vk = .str s := rk
      subst hvk
      cases ez
      refine ⟨_, DGet.k (k := .inr s) hH3, ?_⟩
      rw [val_T]
      refine ⟨F3, ρ3, m3, sl3, w3, q.bnd.step w2 e3 fun y ρ4 q => ?_⟩
      intro vy F4 H4 m4 ry sl4 w4 e4
      obtain ⟨zz, ezz, q⟩ := Mt_lift q
      refine ⟨F4, m4, σ2, ρ4, _, y, zz, ?_, ry, sl4, w4, ezz, ?_⟩
      · cases tb.lookup s <;> rfl
      · intro v F5 H5 m5 rz sl5 w5 e5
        obtain ⟨bb, eb, q9⟩ := Mt_lift q
        have ex := (e3.trans w2 e4).trans w2 e5
        cases zz with
        | bl b0 =>
          cases eb
          refine ⟨bb, rz, ?_⟩
          cases bb with
          | true => exact ⟨F5, ρ4, m5, sl5, w5, Ms.step w2 ex Lk.refl q9⟩
          | false => exact q9 σ2 F5 H5 m5 sl5 w5 ex Lk.refl
        | _ => cases eb
    | _ => cases ez
  · rw [if_neg hc] at q
    exact q.elim
end
section
variable {ρ : Env} {lk : List Nat}
@[simp] theorem sclr_ap {i : Nat} : sclr i lk ρ = if i < ρ.length ∧ i ∉ lk then some (.ok .nx, ρ.set i none) else none := rfl
@[simp] theorem findD_ap {a b : M D} : findD a b ρ = bnd a (fun x => match x with | .str s => bnd b (fun y => lift (gfind (.str s) y)) | _ => stuck) ρ := rfl
@[simp] theorem gfind_str {a b : Str} : gfind (.str a) (.str b) = some (.int (Txt.find a b)) := rfl
@[simp] theorem gget_str {tb : List (Str × Int)} {d0 : Int} {k : Str} : gget tb d0 (.str k) = some (.int ((tb.lookup k).getD d0)) := rfl
end
end KR

set_option Elab.async false
set_option linter.all false
namespace My
open PySem L2 KR
set_option maxRecDepth 100000
set_option maxHeartbeats 4000000
def top (i : Nat) : Stmt := PySem.Challenge.pw_keeproom_k04_texts_that_are_no_question.main.body.getD i (.Pass ⟨0, 0, 0, 0⟩)
def tb_SHAPES : List (Str × D) := [("is", .tup [.str "name"]), ("less", .tup [.str "question", .str "question"]), ("same", .tup [.str "question", .str "question"]), ("if", .tup [.str "question", .str "question", .str "question"]), ("last", .tup [.str "question"]), ("first", .tup [.str "question"]), ("before", .tup [.str "question"]), ("great", .tup [.str "two", .str "question"]), ("least", .tup [.str "two", .str "question"]), ("times", .tup [.str "three", .str "question"]), ("circle", .tup [.str "circle", .str "rest", .str "question"]), ("since", .tup [.str "question", .str "question"]), ("among", .tup [.str "question", .str "question"])]
def tb_DIGITS : List (Str × D) := [("two", .str "12"), ("three", .str "123"), ("circle", .str "23")]
/-- word_end -/
abbrev s0 : Stmt := top 4
abbrev N0 : List Str := ["text", "at"]
abbrev P0 : List Str := ["text", "at"]
noncomputable def b0 (cc : Nat → Cl) : S :=
  (seq (swhile (tand (tst (bin glt (getv 1) (cal (f1 glen) (acons (getv 0) (ret []))))) (tst (bin gin (bin gix (getv 0) (getv 1)) (ret (.str "abcdefghijklmnopqrstuvwxyz"))))) (gaug giadd 1 (ret (.int 1))))
  (sret (val (getv 1))))
theorem sc0 : FnScope N0 P0 (defScope s0) := ⟨rfl, rfl, rfl, by decide +kernel, rfl, by decide +kernel, by decide +kernel⟩
/-- read_argument -/
abbrev s1 : Stmt := top 5
abbrev N1 : List Str := ["kind", "text", "at", "names", "pieces", "allowed", "end"]
abbrev P1 : List Str := ["kind", "text", "at", "names", "pieces"]
noncomputable def b1 (cc : Nat → Cl) : S :=
  (seq (sif (tst (bin geq (getv 0) (ret (.str "question")))) (sret (ocall (cc 2) 3 (cval (getv 1) (cval (getv 2) (cval (getv 3) (ret [])))))) skip)
  (seq (sif (tst (bin geq (getv 0) (ret (.str "name")))) (seq (sset 6 (ocall (cc 0) 2 (cval (getv 1) (cval (getv 2) (ret [])))))
  (seq (sif (tst (bin gin (cut (getv 1) (par (getv 2)) (par (getv 6))) (getv 3))) (sret (val (dtup (acons (cut (getv 1) (par (getv 2)) (par (getv 6))) (acons (getv 6) (ret [])))))) skip)
  (sret (val (ret .non))))) skip)
  (seq (sset 5 (val (ite' (tst (bin geq (getv 0) (ret (.str "rest")))) (cut (ret (.str "012")) (ret none) (par (ixv 4 (ret (.int 1))))) (una (gitK tb_DIGITS) (getv 0)))))
  (seq (sif (tand (tst (bin gne (cut (getv 1) (par (getv 2)) (par (bin gadd (getv 2) (ret (.int 1))))) (ret (.str "")))) (tst (bin gin (cut (getv 1) (par (getv 2)) (par (bin gadd (getv 2) (ret (.int 1))))) (getv 5)))) (sret (val (dtup (acons (cal (f1 gint) (acons (bin gix (getv 1) (getv 2)) (ret []))) (acons (bin gadd (getv 2) (ret (.int 1))) (ret [])))))) skip)
  (sret (val (ret .non)))))))
theorem sc1 : FnScope N1 P1 (defScope s1) := ⟨rfl, rfl, rfl, by decide +kernel, rfl, by decide +kernel, by decide +kernel⟩
/-- read_at -/
abbrev s2 : Stmt := top 6
abbrev N2 : List Str := ["text", "at", "names", "end", "word", "pieces", "sign", "kind", "found"]
abbrev P2 : List Str := ["text", "at", "names"]
noncomputable def b2 (cc : Nat → Cl) : S :=
  (seq (sset 3 (ocall (cc 0) 2 (cval (getv 0) (cval (getv 1) (ret [])))))
  (seq (sset 4 (val (cut (getv 0) (par (getv 1)) (par (getv 3)))))
  (seq (sif (tst (bin gin (getv 4) (dtup (acons (ret (.str "now")) (acons (ret (.str "nothing")) (ret [])))))) (sret (val (dtup (acons (dtup (acons (getv 4) (ret []))) (acons (getv 3) (ret [])))))) skip)
  (seq (sif (tst (una (gninK tb_SHAPES) (getv 4))) (sret (val (ret .non))) skip)
  (seq (sset 5 (dlst (acons (getv 4) (ret []))))
  (seq (sset 6 (val (ret (.str "("))))
  (seq (sset 1 (val (getv 3)))
  (seq (sfor (gnm 7) (its (una (gitK tb_SHAPES) (getv 4))) (seq (sif (tst (bin gne (cut (getv 0) (par (getv 1)) (par (bin gadd (getv 1) (ret (.int 1))))) (getv 6))) (sret (val (ret .non))) skip)
  (seq (sset 8 (ocall (cc 1) 5 (cval (getv 7) (cval (getv 0) (cval (bin gadd (getv 1) (ret (.int 1))) (cval (getv 2) (clend 5 (ret []))))))))
  (seq (sif (tst (una gisN (getv 8))) (sret (val (ret .non))) skip)
  (seq (sdo (apnd 5 (bin gix (getv 8) (ret (.int 0)))))
  (seq (sset 1 (val (bin gix (getv 8) (ret (.int 1)))))
  (sset 6 (val (ret (.str ","))))))))))
  (seq (sif (tst (bin gne (cut (getv 0) (par (getv 1)) (par (bin gadd (getv 1) (ret (.int 1))))) (ret (.str ")")))) (sret (val (ret .non))) skip)
  (sret (val (dtup (acons (cal (f1 gtup) (acons (getv 5) (ret []))) (acons (bin gadd (getv 1) (ret (.int 1))) (ret [])))))))))))))))
theorem sc2 : FnScope N2 P2 (defScope s2) := ⟨rfl, rfl, rfl, by decide +kernel, rfl, by decide +kernel, by decide +kernel⟩
/-- read_question -/
abbrev s3 : Stmt := top 7
abbrev N3 : List Str := ["text", "names", "found"]
abbrev P3 : List Str := ["text", "names"]
noncomputable def b3 (cc : Nat → Cl) : S :=
  (seq (sset 2 (ocall (cc 2) 3 (cval (getv 0) (cval (ret (.int 0)) (cval (getv 1) (ret []))))))
  (seq (sif (tor (tst (una gisN (getv 2))) (tst (bin gne (bin gix (getv 2) (ret (.int 1))) (cal (f1 glen) (acons (getv 0) (ret [])))))) (sret (val (ret .non))) skip)
  (sret (val (bin gix (getv 2) (ret (.int 0)))))))
theorem sc3 : FnScope N3 P3 (defScope s3) := ⟨rfl, rfl, rfl, by decide +kernel, rfl, by decide +kernel, by decide +kernel⟩
/-- _law_tape -/
abbrev s4 : Stmt := top 9
abbrev N4 : List Str := ["_law_script", "_law_tape_here", "_law_cell", "_law_number", "_law_k", "_law_first"]
abbrev P4 : List Str := ["_law_script"]
noncomputable def b4 (cc : Nat → Cl) : S :=
  (seq (sset 1 (dlst (ret [])))
  (seq (sfor (gnm 2) (its (getv 0)) (seq (sset 3 (val (bin gmul (ret (.int 2)) (cal (f1 gint) (acons (getv 2) (ret []))))))
  (seq (sif (tst (bin glt (getv 3) (ret (.int 0)))) (sset 3 (val (bin gsub (una gneg (ret (.int 1))) (getv 3)))) skip)
  (sif (tst (bin gge (getv 3) (bin gpow (ret (.int 10)) (ret (.int 18))))) (sfor (gnm 4) (icl rng1 (acons (ret (.int 40)) (ret []))) (sif (tst (bin ggt (getv 3) (ret (.int 0)))) (seq (sdo (apnd 1 (bin gmod (cal (f1 gint) (acons (getv 3) (ret []))) (ret (.int 1000)))))
  (sset 3 (val (bin gdiv (getv 3) (ret (.int 1000)))))) skip)) (sfor (gnm 4) (icl rng1 (acons (ret (.int 3)) (ret []))) (seq (sset 5 (val (bin gmod (cal (f1 gint) (acons (bin gadd (bin gadd (bin gmul (getv 3) (ret (.int 48271))) (bin gmul (getv 4) (ret (.int 40503)))) (ret (.int 11))) (ret []))) (ret (.int 2147483629)))))
  (sdo (apnd 1 (bin gmod (cal (f1 gint) (acons (bin gadd (bin gmul (getv 5) (ret (.int 69621))) (bin gdiv (getv 5) (ret (.int 65536)))) (ret []))) (ret (.int 2147483629)))))))))))
  (sret (val (getv 1)))))
theorem sc4 : FnScope N4 P4 (defScope s4) := ⟨rfl, rfl, rfl, by decide +kernel, rfl, by decide +kernel, by decide +kernel⟩
/-- _law_draw -/
abbrev s5 : Stmt := top 10
abbrev N5 : List Str := ["_law_tape_here", "_law_at", "_law_many", "_law_number"]
abbrev P5 : List Str := ["_law_tape_here", "_law_at", "_law_many"]
noncomputable def b5 (cc : Nat → Cl) : S :=
  (seq (sif (tst (bin glt (getv 1) (cal (f1 glen) (acons (getv 0) (ret []))))) (sret (val (bin gmod (cal (f1 gint) (acons (bin gix (getv 0) (getv 1)) (ret []))) (getv 2)))) skip)
  (seq (sset 3 (val (ret (.int 1))))
  (seq (sif (tst (bin ggt (cal (f1 glen) (acons (getv 0) (ret []))) (ret (.int 0)))) (sset 3 (val (bin gix (getv 0) (bin gmod (cal (f1 gint) (acons (getv 1) (ret []))) (cal (f1 glen) (acons (getv 0) (ret []))))))) skip)
  (sret (val (bin gmod (bin gmod (cal (f1 gint) (acons (bin gadd (bin gmul (bin gmul (bin gadd (getv 3) (getv 1)) (bin gadd (getv 1) (ret (.int 3)))) (ret (.int 7919))) (bin gmul (getv 1) (ret (.int 104729)))) (ret []))) (ret (.int 65521))) (getv 2)))))))
theorem sc5 : FnScope N5 P5 (defScope s5) := ⟨rfl, rfl, rfl, by decide +kernel, rfl, by decide +kernel, by decide +kernel⟩
/-- _law_equal -/
abbrev s6 : Stmt := top 11
abbrev N6 : List Str := ["_law_actual", "_law_due", "_law_k"]
abbrev P6 : List Str := ["_law_actual", "_law_due"]
noncomputable def b6 (cc : Nat → Cl) : S :=
  (seq (sif (tst (una gisN (getv 1))) (sret (val (una gisN (getv 0)))) skip)
  (seq (sif (tstV (una (gisi .bool) (getv 1))) (sret (val (vand (una (gisi .bool) (getv 0)) (bin geq (getv 0) (getv 1))))) skip)
  (seq (sif (tstV (una (gisi .int) (getv 1))) (sret (val (vand (una (gisi .int) (getv 0)) (vand (una gnot (una (gisi .bool) (getv 0))) (bin geq (getv 0) (getv 1)))))) skip)
  (seq (sif (tstV (una (gisi .str) (getv 1))) (sret (val (vand (una (gisi .str) (getv 0)) (bin geq (getv 0) (getv 1))))) skip)
  (seq (sif (tand (tstV (una (gisi .tuple) (getv 1))) (tnot (tstV (una (gisi .tuple) (getv 0))))) (sret (val (ret (.bl false)))) skip)
  (seq (sif (tand (tstV (una (gisi .list) (getv 1))) (tnot (tstV (una (gisi .list) (getv 0))))) (sret (val (ret (.bl false)))) skip)
  (seq (sif (tst (bin gne (cal (f1 glen) (acons (getv 0) (ret []))) (cal (f1 glen) (acons (getv 1) (ret []))))) (sret (val (ret (.bl false)))) skip)
  (seq (sfor (gnm 2) (icl rng1 (acons (cal (f1 glen) (acons (getv 1) (ret []))) (ret []))) (sif (tnot (tstV (frz (ocall (cc 6) 2 (cval (bin gix (getv 0) (getv 2)) (cval (bin gix (getv 1) (getv 2)) (ret []))))))) (sret (val (ret (.bl false)))) skip))
  (sret (val (ret (.bl true))))))))))))
theorem sc6 : FnScope N6 P6 (defScope s6) := ⟨rfl, rfl, rfl, by decide +kernel, rfl, by decide +kernel, by decide +kernel⟩
/-- _law_take -/
abbrev s7 : Stmt := top 12
abbrev N7 : List Str := ["_law_state", "_law_many"]
abbrev P7 : List Str := ["_law_state", "_law_many"]
noncomputable def b7 (cc : Nat → Cl) : S :=
  (seq (seti 0 (ret (.int 1)) (bin gadd (ixv 0 (ret (.int 1))) (ret (.int 1))))
  (sret (ocall (cc 5) 3 (cval (ixv 0 (ret (.int 0))) (cval (ixv 0 (ret (.int 1))) (cval (getv 1) (ret [])))))))
theorem sc7 : FnScope N7 P7 (defScope s7) := ⟨rfl, rfl, rfl, by decide +kernel, rfl, by decide +kernel, by decide +kernel⟩
/-- _law_names -/
abbrev s8 : Stmt := top 13
abbrev N8 : List Str := ["_law_state", "_law_menu", "_law_first", "_law_k"]
abbrev P8 : List Str := ["_law_state"]
noncomputable def b8 (cc : Nat → Cl) : S :=
  (seq (sset 1 (dlst (acons (ret (.str "a")) (acons (ret (.str "now")) (acons (ret (.str "tick")) (acons (ret (.str "zz")) (acons (ret (.str "b")) (acons (ret (.str "is")) (acons (ret (.str "abcdefgh")) (ret []))))))))))
  (seq (sset 2 (ocall (cc 7) 2 (clend 0 (cval (ret (.int 7)) (ret [])))))
  (sret (val (cal (f1 gtup) (acons (frz (lcomp [3] (icl rng1 (acons (bin gadd (ret (.int 1)) (frz (ocall (cc 7) 2 (clend 0 (cval (ret (.int 3)) (ret [])))))) (ret []))) (gnm 3) (ret true) (bin gix (getv 1) (bin gmod (cal (f1 gint) (acons (bin gadd (getv 2) (bin gmul (ret (.int 3)) (getv 3))) (ret []))) (ret (.int 7)))))) (ret [])))))))
theorem sc8 : FnScope N8 P8 (defScope s8) := ⟨rfl, rfl, rfl, by decide +kernel, rfl, by decide +kernel, by decide +kernel⟩
/-- _law_leaf -/
abbrev s9 : Stmt := top 14
abbrev N9 : List Str := ["_law_state", "_law_names_here", "_law_pick"]
abbrev P9 : List Str := ["_law_state", "_law_names_here"]
noncomputable def b9 (cc : Nat → Cl) : S :=
  (seq (sset 2 (ocall (cc 7) 2 (clend 0 (cval (ret (.int 5)) (ret [])))))
  (seq (sif (tst (bin glt (getv 2) (ret (.int 2)))) (sret (val (dtup (acons (ret (.str "now")) (ret []))))) skip)
  (seq (sif (tst (bin geq (getv 2) (ret (.int 2)))) (sret (val (dtup (acons (ret (.str "nothing")) (ret []))))) skip)
  (sret (val (dtup (acons (ret (.str "is")) (acons (bin gix (getv 1) (frz (ocall (cc 7) 2 (clend 0 (cval (cal (f1 glen) (acons (getv 1) (ret []))) (ret [])))))) (ret [])))))))))
theorem sc9 : FnScope N9 P9 (defScope s9) := ⟨rfl, rfl, rfl, by decide +kernel, rfl, by decide +kernel, by decide +kernel⟩
/-- _law_tree -/
abbrev s10 : Stmt := top 15
abbrev N10 : List Str := ["_law_state", "_law_names_here", "_law_room", "_law_pick", "_law_first", "_law_word", "_law_many", "_law_kids", "_law_k"]
abbrev P10 : List Str := ["_law_state", "_law_names_here", "_law_room"]
noncomputable def b10 (cc : Nat → Cl) : S :=
  (seq (sset 3 (ocall (cc 7) 2 (clend 0 (cval (ret (.int 16)) (ret [])))))
  (seq (sif (tor (tst (bin glt (getv 2) (ret (.int 2)))) (tst (bin geq (getv 3) (ret (.int 0))))) (sret (ocall (cc 9) 2 (clend 0 (cval (getv 1) (ret []))))) skip)
  (seq (sif (tst (bin glt (getv 3) (ret (.int 4)))) (sret (val (dtup (acons (bin gix (frz (dlst (acons (ret (.str "last")) (acons (ret (.str "first")) (acons (ret (.str "before")) (ret [])))))) (bin gsub (getv 3) (ret (.int 1)))) (acons (frz (ocall (cc 10) 3 (clend 0 (cval (getv 1) (cval (bin gsub (getv 2) (ret (.int 1))) (ret [])))))) (ret [])))))) skip)
  (seq (sif (tst (bin glt (getv 3) (ret (.int 7)))) (seq (sset 6 (val (bin gix (frz (dlst (acons (ret (.int 2)) (acons (ret (.int 2)) (acons (ret (.int 3)) (ret [])))))) (bin gsub (getv 3) (ret (.int 4))))))
  (sret (val (dtup (acons (bin gix (frz (dlst (acons (ret (.str "great")) (acons (ret (.str "least")) (acons (ret (.str "times")) (ret [])))))) (bin gsub (getv 3) (ret (.int 4)))) (acons (bin gadd (ret (.int 1)) (frz (ocall (cc 7) 2 (clend 0 (cval (getv 6) (ret [])))))) (acons (frz (ocall (cc 10) 3 (clend 0 (cval (getv 1) (cval (bin gsub (getv 2) (ret (.int 1))) (ret [])))))) (ret [])))))))) skip)
  (seq (sif (tst (bin geq (getv 3) (ret (.int 7)))) (seq (sset 6 (val (bin gadd (ret (.int 2)) (frz (ocall (cc 7) 2 (clend 0 (cval (ret (.int 2)) (ret []))))))))
  (sret (val (dtup (acons (ret (.str "circle")) (acons (getv 6) (acons (frz (ocall (cc 7) 2 (clend 0 (cval (getv 6) (ret []))))) (acons (frz (ocall (cc 10) 3 (clend 0 (cval (getv 1) (cval (bin gsub (getv 2) (ret (.int 1))) (ret [])))))) (ret []))))))))) skip)
  (seq (sif (tand (tst (bin glt (getv 3) (ret (.int 10)))) (tst (bin ggt (getv 2) (ret (.int 3))))) (seq (sset 7 (lcomp [8] (icl rng1 (acons (ret (.int 3)) (ret []))) (gnm 8) (ret true) (frz (ocall (cc 10) 3 (clend 0 (cval (getv 1) (cval (bin gdiv (bin gsub (getv 2) (ret (.int 1))) (ret (.int 3))) (ret []))))))))
  (sret (val (dtup (acons (ret (.str "if")) (acons (bin gix (getv 7) (ret (.int 0))) (acons (bin gix (getv 7) (ret (.int 1))) (acons (bin gix (getv 7) (ret (.int 2))) (ret []))))))))) skip)
  (seq (sif (tst (bin glt (getv 2) (ret (.int 3)))) (sret (val (dtup (acons (ret (.str "last")) (acons (frz (ocall (cc 9) 2 (clend 0 (cval (getv 1) (ret []))))) (ret [])))))) skip)
  (seq (sset 4 (val (bin gadd (ret (.int 1)) (frz (ocall (cc 7) 2 (clend 0 (cval (bin gsub (getv 2) (ret (.int 2))) (ret []))))))))
  (seq (sset 5 (val (bin gix (frz (dlst (acons (ret (.str "less")) (acons (ret (.str "same")) (acons (ret (.str "since")) (acons (ret (.str "among")) (acons (ret (.str "since")) (acons (ret (.str "among")) (acons (ret (.str "less")) (acons (ret (.str "same")) (ret []))))))))))) (bin gmod (cal (f1 gint) (acons (getv 3) (ret []))) (ret (.int 8))))))
  (sret (val (dtup (acons (getv 5) (acons (frz (ocall (cc 10) 3 (clend 0 (cval (getv 1) (cval (getv 4) (ret [])))))) (acons (frz (ocall (cc 10) 3 (clend 0 (cval (getv 1) (cval (bin gsub (bin gsub (getv 2) (ret (.int 1))) (getv 4)) (ret [])))))) (ret []))))))))))))))))
theorem sc10 : FnScope N10 P10 (defScope s10) := ⟨rfl, rfl, rfl, by decide +kernel, rfl, by decide +kernel, by decide +kernel⟩
/-- _law_text -/
abbrev s11 : Stmt := top 16
abbrev N11 : List Str := ["_law_tree_here", "_law_pieces", "_law_one"]
abbrev P11 : List Str := ["_law_tree_here"]
noncomputable def b11 (cc : Nat → Cl) : S :=
  (seq (sif (tst (bin geq (cal (f1 glen) (acons (getv 0) (ret []))) (ret (.int 1)))) (sret (val (bin gix (getv 0) (ret (.int 0))))) skip)
  (seq (sset 1 (dlst (ret [])))
  (seq (sfor (gnm 2) (its (cut (getv 0) (par (ret (.int 1))) (ret none))) (sif (tstV (una (gisi .tuple) (getv 2))) (sdo (apnd 1 (frz (ocall (cc 11) 1 (cval (getv 2) (ret [])))))) (sdo (apnd 1 (cal (f1 gstr2) (acons (getv 2) (ret [])))))))
  (sret (val (bin gadd (bin gadd (bin gadd (bin gix (getv 0) (ret (.int 0))) (ret (.str "("))) (joinD (ret (.str ",")) (getv 1))) (ret (.str ")"))))))))
theorem sc11 : FnScope N11 P11 (defScope s11) := ⟨rfl, rfl, rfl, by decide +kernel, rfl, by decide +kernel, by decide +kernel⟩
/-- _law_split -/
abbrev s12 : Stmt := top 17
abbrev N12 : List Str := ["_law_text_here", "_law_depth", "_law_pieces", "_law_char"]
abbrev P12 : List Str := ["_law_text_here"]
noncomputable def b12 (cc : Nat → Cl) : S :=
  (seq (sset 1 (val (ret (.int 0))))
  (seq (sset 2 (dlst (acons (ret (.str "")) (ret []))))
  (seq (sfor (gnm 3) (its (getv 0)) (seq (sif (tst (bin geq (getv 3) (ret (.str "(")))) (sset 1 (val (bin gadd (getv 1) (ret (.int 1))))) skip)
  (seq (sif (tst (bin geq (getv 3) (ret (.str ")")))) (sset 1 (val (bin gsub (getv 1) (ret (.int 1))))) skip)
  (seq (sif (tst (bin glt (getv 1) (ret (.int 0)))) (sret (val (ret .non))) skip)
  (sif (tand (tst (bin geq (getv 3) (ret (.str ",")))) (tst (bin geq (getv 1) (ret (.int 0))))) (sdo (apnd 2 (ret (.str "")))) (seti 2 (una gneg (ret (.int 1))) (bin gadd (ixv 2 (una gneg (ret (.int 1)))) (getv 3))))))))
  (seq (sif (tst (bin ggt (getv 1) (ret (.int 0)))) (sret (val (ret .non))) skip)
  (sret (val (getv 2)))))))
theorem sc12 : FnScope N12 P12 (defScope s12) := ⟨rfl, rfl, rfl, by decide +kernel, rfl, by decide +kernel, by decide +kernel⟩
/-- _law_numbered -/
abbrev s13 : Stmt := top 18
abbrev N13 : List Str := ["_law_word", "_law_pieces", "_law_most"]
abbrev P13 : List Str := ["_law_word", "_law_pieces"]
noncomputable def b13 (cc : Nat → Cl) : S :=
  (seq (sif (tst (bin geq (getv 0) (ret (.str "circle")))) (seq (sif (tor (tst (bin gne (cal (f1 glen) (acons (getv 1) (ret []))) (ret (.int 3)))) (tor (tst (bin gnin (bin gix (getv 1) (ret (.int 0))) (dtup (acons (ret (.str "2")) (acons (ret (.str "3")) (ret [])))))) (tst (bin gnin (bin gix (getv 1) (ret (.int 1))) (dtup (acons (ret (.str "0")) (acons (ret (.str "1")) (acons (ret (.str "2")) (ret []))))))))) (sret (val (ret .non))) skip)
  (seq (sif (tst (bin gge (cal (f1 gint) (acons (bin gix (getv 1) (ret (.int 1))) (ret []))) (cal (f1 gint) (acons (bin gix (getv 1) (ret (.int 0))) (ret []))))) (sret (val (ret .non))) skip)
  (sret (val (dtup (acons (getv 0) (acons (cal (f1 gint) (acons (bin gix (getv 1) (ret (.int 0))) (ret []))) (acons (cal (f1 gint) (acons (bin gix (getv 1) (ret (.int 1))) (ret []))) (ret []))))))))) skip)
  (seq (sset 2 (val (dtup (acons (ret (.str "1")) (acons (ret (.str "2")) (ret []))))))
  (seq (sif (tst (bin geq (getv 0) (ret (.str "times")))) (sset 2 (val (dtup (acons (ret (.str "1")) (acons (ret (.str "2")) (acons (ret (.str "3")) (ret []))))))) skip)
  (seq (sif (tor (tst (bin gne (cal (f1 glen) (acons (getv 1) (ret []))) (ret (.int 2)))) (tst (bin gnin (bin gix (getv 1) (ret (.int 0))) (getv 2)))) (sret (val (ret .non))) skip)
  (sret (val (dtup (acons (getv 0) (acons (cal (f1 gint) (acons (bin gix (getv 1) (ret (.int 0))) (ret []))) (ret []))))))))))
theorem sc13 : FnScope N13 P13 (defScope s13) := ⟨rfl, rfl, rfl, by decide +kernel, rfl, by decide +kernel, by decide +kernel⟩
/-- _law_read -/
abbrev s14 : Stmt := top 19
abbrev N14 : List Str := ["_law_text_here", "_law_names_here", "_law_at", "_law_word", "_law_pieces", "_law_head", "_law_kids", "_law_kid", "_law_counts", "_law_tree_here"]
abbrev P14 : List Str := ["_law_text_here", "_law_names_here"]
noncomputable def b14 (cc : Nat → Cl) : S :=
  (seq (sif (tor (tst (bin geq (getv 0) (ret (.str "now")))) (tst (bin geq (getv 0) (ret (.str "nothing"))))) (sret (val (dtup (acons (getv 0) (ret []))))) skip)
  (seq (sset 2 (val (findD (getv 0) (ret (.str "(")))))
  (seq (sif (tor (tst (bin glt (getv 2) (ret (.int 0)))) (tst (bin gne (bin gix (getv 0) (bin gsub (cal (f1 glen) (acons (getv 0) (ret []))) (ret (.int 1)))) (ret (.str ")"))))) (sret (val (ret .non))) skip)
  (seq (sset 3 (val (cut (getv 0) (ret none) (par (getv 2)))))
  (seq (sset 4 (ocall (cc 12) 1 (cval (cut (getv 0) (par (bin gadd (getv 2) (ret (.int 1)))) (par (bin gsub (cal (f1 glen) (acons (getv 0) (ret []))) (ret (.int 1))))) (ret []))))
  (seq (sif (tst (una gisN (getv 4))) (sret (val (ret .non))) skip)
  (seq (sif (tst (bin geq (getv 3) (ret (.str "is")))) (sret (val (ite' (tand (tst (bin geq (cal (f1 glen) (acons (getv 4) (ret []))) (ret (.int 1)))) (tst (bin gin (bin gix (getv 4) (ret (.int 0))) (getv 1)))) (dtup (acons (getv 3) (acons (bin gix (getv 4) (ret (.int 0))) (ret [])))) (ret .non)))) skip)
  (seq (sset 5 (val (dtup (acons (getv 3) (ret [])))))
  (seq (sset 6 (val (getv 4)))
  (seq (sif (tst (bin gin (getv 3) (dtup (acons (ret (.str "great")) (acons (ret (.str "least")) (acons (ret (.str "times")) (acons (ret (.str "circle")) (ret [])))))))) (seq (sset 5 (ocall (cc 13) 2 (cval (getv 3) (cval (getv 4) (ret [])))))
  (sset 6 (val (cut (getv 4) (par (bin gsub (cal (f1 glen) (acons (getv 4) (ret []))) (ret (.int 1)))) (ret none))))) (seq (sclr 8) (seq (sif (tst (bin gne (una (gget [("less", 2), ("same", 2), ("if", 3), ("last", 1), ("first", 1), ("before", 1), ("since", 2), ("among", 2)] 0) (getv 3)) (cal (f1 glen) (acons (getv 4) (ret []))))) (sret (val (ret .non))) skip)
  skip)))
  (seq (sif (tst (una gisN (getv 5))) (sret (val (ret .non))) skip)
  (seq (sfor (gnm 7) (its (getv 6)) (seq (sset 9 (ocall (cc 14) 2 (cval (getv 7) (cval (getv 1) (ret [])))))
  (seq (sif (tst (una gisN (getv 9))) (sret (val (ret .non))) skip)
  (sset 5 (val (bin gadd (getv 5) (dtup (acons (getv 9) (ret [])))))))))
  (sret (val (getv 5)))))))))))))))
theorem sc14 : FnScope N14 P14 (defScope s14) := ⟨rfl, rfl, rfl, by decide +kernel, rfl, by decide +kernel, by decide +kernel⟩
/-- _law_changed -/
abbrev s15 : Stmt := top 20
abbrev N15 : List Str := ["_law_state", "_law_text_here", "_law_names_here", "_law_words", "_law_word", "_law_at", "_law_size", "_law_way"]
abbrev P15 : List Str := ["_law_state", "_law_text_here", "_law_names_here"]
noncomputable def b15 (cc : Nat → Cl) : S :=
  (seq (sset 3 (val (bin gadd (frz (dlst (acons (ret (.str "now")) (acons (ret (.str "nothing")) (acons (ret (.str "last(now)")) (acons (ret (.str "less")) (acons (ret (.str "if(")) (acons (ret (.str ")")) (acons (ret (.str "(")) (acons (ret (.str ",")) (acons (ret (.str " ")) (acons (ret (.str "0")) (acons (ret (.str "1")) (acons (ret (.str "2")) (acons (ret (.str "3")) (acons (ret (.str "4")) (acons (ret (.str "is(")) (acons (ret (.str "times(3,")) (acons (ret (.str "circle(2,1,")) (acons (ret (.str "circle(3,2,now)")) (acons (ret (.str "great(2,")) (acons (ret (.str "A")) (acons (ret (.str "-")) (acons (ret (.str "among(now,now)")) (acons (ret (.str "before")) (ret [])))))))))))))))))))))))))) (cal (f1 glist) (acons (getv 2) (ret []))))))
  (seq (sset 4 (val (bin gix (getv 3) (frz (ocall (cc 7) 2 (clend 0 (cval (cal (f1 glen) (acons (getv 3) (ret []))) (ret []))))))))
  (seq (sset 5 (ocall (cc 7) 2 (clend 0 (cval (bin gadd (cal (f1 glen) (acons (getv 1) (ret []))) (ret (.int 1))) (ret [])))))
  (seq (sset 6 (val (bin gix (frz (dlst (acons (ret (.int 1)) (acons (ret (.int 1)) (acons (ret (.int 2)) (acons (ret (.int 4)) (ret []))))))) (frz (ocall (cc 7) 2 (clend 0 (cval (ret (.int 4)) (ret []))))))))
  (seq (sset 7 (ocall (cc 7) 2 (clend 0 (cval (ret (.int 4)) (ret [])))))
  (seq (sif (tst (bin geq (getv 7) (ret (.int 0)))) (sret (val (bin gadd (cut (getv 1) (ret none) (par (getv 5))) (cut (getv 1) (par (bin gadd (getv 5) (getv 6))) (ret none))))) skip)
  (seq (sif (tst (bin geq (getv 7) (ret (.int 1)))) (sret (val (bin gadd (bin gadd (cut (getv 1) (ret none) (par (getv 5))) (cut (getv 1) (par (getv 5)) (par (bin gadd (getv 5) (getv 6))))) (cut (getv 1) (par (getv 5)) (ret none))))) skip)
  (seq (sif (tst (bin geq (getv 7) (ret (.int 2)))) (sret (val (bin gadd (bin gadd (cut (getv 1) (ret none) (par (getv 5))) (getv 4)) (cut (getv 1) (par (getv 5)) (ret none))))) skip)
  (sret (val (bin gadd (bin gadd (cut (getv 1) (ret none) (par (getv 5))) (getv 4)) (cut (getv 1) (par (bin gadd (getv 5) (getv 6))) (ret none)))))))))))))
theorem sc15 : FnScope N15 P15 (defScope s15) := ⟨rfl, rfl, rfl, by decide +kernel, rfl, by decide +kernel, by decide +kernel⟩
/-- law -/
abbrev s16 : Stmt := top 21
abbrev N16 : List Str := ["_law_script", "_law_state", "_law_names_here", "_law_text_here", "_law_k", "_law_other", "_law_j"]
abbrev P16 : List Str := ["_law_script"]
noncomputable def b16 (cc : Nat → Cl) : S :=
  (seq (sset 1 (dlst (acons (frz (ocall (cc 4) 1 (cval (getv 0) (ret [])))) (acons (ret (.int 0)) (ret [])))))
  (seq (sset 2 (ocall (cc 8) 1 (clend 1 (ret []))))
  (seq (sset 3 (ocall (cc 11) 1 (cval (frz (ocall (cc 10) 3 (clend 1 (cval (getv 2) (cval (bin gadd (ret (.int 1)) (frz (ocall (cc 7) 2 (clend 1 (cval (ret (.int 10)) (ret [])))))) (ret [])))))) (ret []))))
  (seq (sfor (gnm 4) (icl rng1 (acons (ret (.int 5)) (ret []))) (seq (sset 5 (val (getv 3)))
  (seq (sfor (gnm 6) (icl rng1 (acons (bin gadd (ret (.int 1)) (frz (ocall (cc 7) 2 (clend 1 (cval (ret (.int 3)) (ret [])))))) (ret []))) (sset 5 (ocall (cc 15) 3 (clend 1 (cval (getv 5) (cval (getv 2) (ret [])))))))
  (sif (tnot (tstV (frz (ocall (cc 6) 2 (cval (frz (ocall (cc 3) 2 (cval (getv 5) (cval (getv 2) (ret []))))) (cval (frz (ocall (cc 14) 2 (cval (getv 5) (cval (getv 2) (ret []))))) (ret []))))))) (sret (val (ret (.bl false)))) skip))))
  (sret (ocall (cc 6) 2 (cval (frz (ocall (cc 3) 2 (cval (getv 3) (cval (getv 2) (ret []))))) (cval (frz (ocall (cc 14) 2 (cval (getv 3) (cval (getv 2) (ret []))))) (ret [])))))))))
theorem sc16 : FnScope N16 P16 (defScope s16) := ⟨rfl, rfl, rfl, by decide +kernel, rfl, by decide +kernel, by decide +kernel⟩
noncomputable def bodies (cc : Nat → Cl) : Nat → Cl
  | 0 => runD 2 2 (b0 cc)
  | 1 => runD 5 7 (b1 cc)
  | 2 => runD 3 9 (b2 cc)
  | 3 => runD 2 3 (b3 cc)
  | 4 => runD 1 6 (b4 cc)
  | 5 => runD 3 4 (b5 cc)
  | 6 => runD 2 3 (b6 cc)
  | 7 => runD 2 2 (b7 cc)
  | 8 => runD 1 4 (b8 cc)
  | 9 => runD 2 3 (b9 cc)
  | 10 => runD 3 9 (b10 cc)
  | 11 => runD 1 3 (b11 cc)
  | 12 => runD 1 4 (b12 cc)
  | 13 => runD 2 3 (b13 cc)
  | 14 => runD 2 10 (b14 cc)
  | 15 => runD 3 8 (b15 cc)
  | 16 => runD 1 7 (b16 cc)
  | _ => fun _ => none
/-- n calls deep -/
noncomputable def call : Nat → Nat → Cl
  | 0 => fun _ _ => none
  | n + 1 => bodies (call n)
/-- what the top has left -/
structure Txt (K : PySem.W.Frag) (mg : Str → Option Value) (fa : Nat → Addr) (fd : Nat → FuncData) (ta : Nat → Addr) (Pm : Params) (cl : Nat → Addr) : Prop where
  f0 : Fun K "word_end" "word_end" s0 (fa 0) (fd 0)
  m0 : mg "word_end" = some (.ref (fa 0))
  b0 : Binds K (fd 0) P0 []
  f1 : Fun K "read_argument" "read_argument" s1 (fa 1) (fd 1)
  m1 : mg "read_argument" = some (.ref (fa 1))
  b1 : Binds K (fd 1) P1 []
  f2 : Fun K "read_at" "read_at" s2 (fa 2) (fd 2)
  m2 : mg "read_at" = some (.ref (fa 2))
  b2 : Binds K (fd 2) P2 []
  f3 : Fun K "read_question" "read_question" s3 (fa 3) (fd 3)
  m3 : mg "read_question" = some (.ref (fa 3))
  b3 : Binds K (fd 3) P3 []
  f4 : Fun K "_law_tape" "_law_tape" s4 (fa 4) (fd 4)
  m4 : mg "_law_tape" = some (.ref (fa 4))
  b4 : Binds K (fd 4) P4 []
  f5 : Fun K "_law_draw" "_law_draw" s5 (fa 5) (fd 5)
  m5 : mg "_law_draw" = some (.ref (fa 5))
  b5 : Binds K (fd 5) P5 []
  f6 : Fun K "_law_equal" "_law_equal" s6 (fa 6) (fd 6)
  m6 : mg "_law_equal" = some (.ref (fa 6))
  b6 : Binds K (fd 6) P6 []
  f7 : Fun K "_law_take" "_law_take" s7 (fa 7) (fd 7)
  m7 : mg "_law_take" = some (.ref (fa 7))
  b7 : Binds K (fd 7) P7 []
  f8 : Fun K "_law_names" "_law_names" s8 (fa 8) (fd 8)
  m8 : mg "_law_names" = some (.ref (fa 8))
  b8 : Binds K (fd 8) P8 []
  f9 : Fun K "_law_leaf" "_law_leaf" s9 (fa 9) (fd 9)
  m9 : mg "_law_leaf" = some (.ref (fa 9))
  b9 : Binds K (fd 9) P9 []
  f10 : Fun K "_law_tree" "_law_tree" s10 (fa 10) (fd 10)
  m10 : mg "_law_tree" = some (.ref (fa 10))
  b10 : Binds K (fd 10) P10 []
  f11 : Fun K "_law_text" "_law_text" s11 (fa 11) (fd 11)
  m11 : mg "_law_text" = some (.ref (fa 11))
  b11 : Binds K (fd 11) P11 []
  f12 : Fun K "_law_split" "_law_split" s12 (fa 12) (fd 12)
  m12 : mg "_law_split" = some (.ref (fa 12))
  b12 : Binds K (fd 12) P12 []
  f13 : Fun K "_law_numbered" "_law_numbered" s13 (fa 13) (fd 13)
  m13 : mg "_law_numbered" = some (.ref (fa 13))
  b13 : Binds K (fd 13) P13 []
  f14 : Fun K "_law_read" "_law_read" s14 (fa 14) (fd 14)
  m14 : mg "_law_read" = some (.ref (fa 14))
  b14 : Binds K (fd 14) P14 []
  f15 : Fun K "_law_changed" "_law_changed" s15 (fa 15) (fd 15)
  m15 : mg "_law_changed" = some (.ref (fa 15))
  b15 : Binds K (fd 15) P15 []
  f16 : Fun K "law" "law" s16 (fa 16) (fd 16)
  m16 : mg "law" = some (.ref (fa 16))
  b16 : Binds K (fd 16) P16 []
  n_bool : mg "bool" = none
  n_int : mg "int" = none
  n_isinstance : mg "isinstance" = none
  n_len : mg "len" = none
  n_list : mg "list" = none
  n_range : mg "range" = none
  n_str : mg "str" = none
  n_tuple : mg "tuple" = none
  c_LETTERS : ∃ t, mg "LETTERS" = some (.str "abcdefghijklmnopqrstuvwxyz" t)
  c_DIGITS : mg "DIGITS" = some (.ref (ta 0))
  t_DIGITS : KTab K Pm cl (ta 0) tb_DIGITS
  c_SHAPES : mg "SHAPES" = some (.ref (ta 1))
  t_SHAPES : KTab K Pm cl (ta 1) tb_SHAPES
section
variable {P : Program} {w : World} {K : PySem.W.Frag} {mg : Str → Option Value} {base : Heap} {fa : Nat → Addr} {fd : Nat → FuncData} {cl : Nat → Addr} {ta : Nat → Addr}
/-- the def keeps what its denotation says, at n calls deep -/
abbrev Ok (P : Program) (w : World) (K : PySem.W.Frag) (mg : Str → Option Value) (base : Heap) (fa : Nat → Addr) (fd : Nat → FuncData) (cl : Nat → Addr) (n k : Nat) (ps : List Str) : Prop :=
  FnOk P w K mg base (L2.CX P w) (2 * n) (fa k) (fd k) ps (spD K cl ps.length (call n k))
theorem ok0 (T : Txt K mg fa fd ta w.params cl) (n : Nat)  : Ok P w K mg base fa fd cl (n + 1) 0 P0 := by
  refine def_ok (k := 2 * n + 1) (N := N0) (body := b0 (call n)) T.f0 sc0 fun cd A outer s H E lk hr => ?_
  let C := cfOf (P := P) (w := w) (K := K) (mg := mg) (base := base) cl (2 * n + 1) N0 P0 "word_end" (defScope s0) (fa 0) cd A outer s H E sc0 hr
  show DB C lk (defBody s0) (b0 (call n))
  delta b0
  exact (b_cons (s_while (t_bool (w_and (t_cmp d_lt (e_name (pv 1)) (e_callB d_len rfl T.n_len (by decide +kernel) (a_cons (e_name (pv 0)) a_nil)) (nomark _)) (w_and1 (t_cmp (d_in C.hu65) (e_ix (e_name (pv 0)) (e_name (pv 1)) (fun _ _ => rfl)) (e_globS T.c_LETTERS rfl) (by with_unfolding_all rfl))))) (b_one (s_aug (i := 1) rfl (by first | exact Or.inl rfl | exact Or.inr rfl) e_int)))
  (b_one (s_ret (o_val (e_name (pv 1))))))
theorem ok1 (T : Txt K mg fa fd ta w.params cl) (n : Nat) (G0 : Ok P w K mg base fa fd cl n 0 P0) (G2 : Ok P w K mg base fa fd cl n 2 P2) : Ok P w K mg base fa fd cl (n + 1) 1 P1 := by
  refine def_ok (k := 2 * n + 1) (N := N1) (body := b1 (call n)) T.f1 sc1 fun cd A outer s H E lk hr => ?_
  let C := cfOf (P := P) (w := w) (K := K) (mg := mg) (base := base) cl (2 * n + 1) N1 P1 "read_argument" (defScope s1) (fa 1) cd A outer s H E sc1 hr
  show DB C lk (defBody s1) (b1 (call n))
  delta b1
  exact (b_cons (s_if (t_cmp (d_eq C.hu64) (e_name (pv 0)) e_str (nomark _)) (b_one (s_ret (o_call G2 (Nat.le_succ _) rfl T.m2 T.f2.kp T.b2 (c_val (e_name (pv 1)) (c_val (e_name (pv 2)) (c_val (e_name (pv 3)) c_nil)))))) b_nil)
  (b_cons (s_if (t_cmp (d_eq C.hu64) (e_name (pv 0)) e_str (nomark _)) (b_cons (s_set (i := 6) rfl (by first | exact Or.inl rfl | exact Or.inr rfl) (o_call G0 (Nat.le_succ _) rfl T.m0 T.f0.kp T.b0 (c_val (e_name (pv 1)) (c_val (e_name (pv 2)) c_nil))))
  (b_cons (s_if (t_cmp (d_in C.hu65) (e_sl (e_name (pv 1)) (p_some (e_name (pv 2))) (p_some (e_name (pv 6)))) (e_name (pv 3)) (by with_unfolding_all rfl)) (b_one (s_ret (o_val (e_tup (a_cons (e_sl (e_name (pv 1)) (p_some (e_name (pv 2))) (p_some (e_name (pv 6)))) (a_cons (e_name (pv 6)) a_nil)))))) b_nil)
  (b_one (s_ret (o_val e_non))))) b_nil)
  (b_cons (s_set (i := 5) rfl (by first | exact Or.inl rfl | exact Or.inr rfl) (o_val (e_if (t_cmp (d_eq C.hu64) (e_name (pv 0)) e_str (nomark _)) (e_sl e_str p_none (p_some (e_ixv (pv 4) e_int (fun _ _ => rfl)))) (e_itK (e_name (pv 0)) T.t_DIGITS rfl T.c_DIGITS (fun _ _ => rfl)))))
  (b_cons (s_if (t_bool (w_and (t_cmp (d_ne C.hu64) (e_sl (e_name (pv 1)) (p_some (e_name (pv 2))) (p_some (e_bin d_add (e_name (pv 2)) e_int))) e_str (nomark _)) (w_and1 (t_cmp (d_in C.hu65) (e_sl (e_name (pv 1)) (p_some (e_name (pv 2))) (p_some (e_bin d_add (e_name (pv 2)) e_int))) (e_name (pv 5)) (by with_unfolding_all rfl))))) (b_one (s_ret (o_val (e_tup (a_cons (e_callTy d_intf rfl T.n_int (by decide +kernel) (a_cons (e_ix (e_name (pv 1)) (e_name (pv 2)) (fun _ _ => rfl)) a_nil)) (a_cons (e_bin d_add (e_name (pv 2)) e_int) a_nil)))))) b_nil)
  (b_one (s_ret (o_val e_non)))))))
theorem ok2 (T : Txt K mg fa fd ta w.params cl) (n : Nat) (G1 : Ok P w K mg base fa fd cl n 1 P1) (G0 : Ok P w K mg base fa fd cl n 0 P0) : Ok P w K mg base fa fd cl (n + 1) 2 P2 := by
  refine def_ok (k := 2 * n + 1) (N := N2) (body := b2 (call n)) T.f2 sc2 fun cd A outer s H E lk hr => ?_
  let C := cfOf (P := P) (w := w) (K := K) (mg := mg) (base := base) cl (2 * n + 1) N2 P2 "read_at" (defScope s2) (fa 2) cd A outer s H E sc2 hr
  show DB C lk (defBody s2) (b2 (call n))
  delta b2
  exact (b_cons (s_set (i := 3) rfl (by first | exact Or.inl rfl | exact Or.inr rfl) (o_call G0 (Nat.le_succ _) rfl T.m0 T.f0.kp T.b0 (c_val (e_name (pv 0)) (c_val (e_name (pv 1)) c_nil))))
  (b_cons (s_set (i := 4) rfl (by first | exact Or.inl rfl | exact Or.inr rfl) (o_val (e_sl (e_name (pv 0)) (p_some (e_name (pv 1))) (p_some (e_name (pv 3))))))
  (b_cons (s_if (t_cmp (d_in C.hu65) (e_name (pv 4)) (e_tup (a_cons e_str (a_cons e_str a_nil))) (by with_unfolding_all rfl)) (b_one (s_ret (o_val (e_tup (a_cons (e_tup (a_cons (e_name (pv 4)) a_nil)) (a_cons (e_name (pv 3)) a_nil)))))) b_nil)
  (b_cons (s_if (t_notinK (e_name (pv 4)) T.t_SHAPES rfl T.c_SHAPES) (b_one (s_ret (o_val e_non))) b_nil)
  (b_cons (s_set (i := 5) rfl (by first | exact Or.inl rfl | exact Or.inr rfl) (o_lst (a_cons (e_name (pv 4)) a_nil)))
  (b_cons (s_set (i := 6) rfl (by first | exact Or.inl rfl | exact Or.inr rfl) (o_val e_str))
  (b_cons (s_set (i := 1) rfl (by first | exact Or.inl rfl | exact Or.inr rfl) (o_val (e_name (pv 3))))
  (b_cons (s_for (i_seq (e_itK (e_name (pv 4)) T.t_SHAPES rfl T.c_SHAPES (fun _ _ => rfl))) (g_name (i := 7) rfl (by first | exact Or.inl rfl | exact Or.inr rfl)) (b_cons (s_if (t_cmp (d_ne C.hu64) (e_sl (e_name (pv 0)) (p_some (e_name (pv 1))) (p_some (e_bin d_add (e_name (pv 1)) e_int))) (e_name (pv 6)) (nomark _)) (b_one (s_ret (o_val e_non))) b_nil)
  (b_cons (s_set (i := 8) rfl (by first | exact Or.inl rfl | exact Or.inr rfl) (o_call G1 (Nat.le_succ _) rfl T.m1 T.f1.kp T.b1 (c_val (e_name (pv 7)) (c_val (e_name (pv 0)) (c_val (e_bin d_add (e_name (pv 1)) e_int) (c_val (e_name (pv 2)) (c_lend (pv 5) c_nil)))))))
  (b_cons (s_if (t_isN (e_name (pv 8))) (b_one (s_ret (o_val e_non))) b_nil)
  (b_cons (s_expr (e_append (pv 5) (e_ix (e_name (pv 8)) e_int (fun _ _ => rfl))))
  (b_cons (s_set (i := 1) rfl (by first | exact Or.inl rfl | exact Or.inr rfl) (o_val (e_ix (e_name (pv 8)) e_int (fun _ _ => rfl))))
  (b_one (s_set (i := 6) rfl (by first | exact Or.inl rfl | exact Or.inr rfl) (o_val e_str)))))))))
  (b_cons (s_if (t_cmp (d_ne C.hu64) (e_sl (e_name (pv 0)) (p_some (e_name (pv 1))) (p_some (e_bin d_add (e_name (pv 1)) e_int))) e_str (nomark _)) (b_one (s_ret (o_val e_non))) b_nil)
  (b_one (s_ret (o_val (e_tup (a_cons (e_callTy d_tuple rfl T.n_tuple (by decide +kernel) (a_cons (e_name (pv 5)) a_nil)) (a_cons (e_bin d_add (e_name (pv 1)) e_int) a_nil)))))))))))))))
theorem ok3 (T : Txt K mg fa fd ta w.params cl) (n : Nat) (G2 : Ok P w K mg base fa fd cl n 2 P2) : Ok P w K mg base fa fd cl (n + 1) 3 P3 := by
  refine def_ok (k := 2 * n + 1) (N := N3) (body := b3 (call n)) T.f3 sc3 fun cd A outer s H E lk hr => ?_
  let C := cfOf (P := P) (w := w) (K := K) (mg := mg) (base := base) cl (2 * n + 1) N3 P3 "read_question" (defScope s3) (fa 3) cd A outer s H E sc3 hr
  show DB C lk (defBody s3) (b3 (call n))
  delta b3
  exact (b_cons (s_set (i := 2) rfl (by first | exact Or.inl rfl | exact Or.inr rfl) (o_call G2 (Nat.le_succ _) rfl T.m2 T.f2.kp T.b2 (c_val (e_name (pv 0)) (c_val e_int (c_val (e_name (pv 1)) c_nil)))))
  (b_cons (s_if (t_bool (w_or (t_isN (e_name (pv 2))) (w_or1 (t_cmp (d_ne C.hu64) (e_ix (e_name (pv 2)) e_int (fun _ _ => rfl)) (e_callB d_len rfl T.n_len (by decide +kernel) (a_cons (e_name (pv 0)) a_nil)) (nomark _))))) (b_one (s_ret (o_val e_non))) b_nil)
  (b_one (s_ret (o_val (e_ix (e_name (pv 2)) e_int (fun _ _ => rfl)))))))
theorem ok4 (T : Txt K mg fa fd ta w.params cl) (n : Nat)  : Ok P w K mg base fa fd cl (n + 1) 4 P4 := by
  refine def_ok (k := 2 * n + 1) (N := N4) (body := b4 (call n)) T.f4 sc4 fun cd A outer s H E lk hr => ?_
  let C := cfOf (P := P) (w := w) (K := K) (mg := mg) (base := base) cl (2 * n + 1) N4 P4 "_law_tape" (defScope s4) (fa 4) cd A outer s H E sc4 hr
  show DB C lk (defBody s4) (b4 (call n))
  delta b4
  exact (b_cons (s_set (i := 1) rfl (by first | exact Or.inl rfl | exact Or.inr rfl) (o_lst a_nil))
  (b_cons (s_for (i_seq (e_name (pv 0))) (g_name (i := 2) rfl (by first | exact Or.inl rfl | exact Or.inr rfl)) (b_cons (s_set (i := 3) rfl (by first | exact Or.inl rfl | exact Or.inr rfl) (o_val (e_bin d_mul e_int (e_callTy d_intf rfl T.n_int (by decide +kernel) (a_cons (e_name (pv 2)) a_nil)))))
  (b_cons (s_if (t_cmp d_lt (e_name (pv 3)) e_int (nomark _)) (b_one (s_set (i := 3) rfl (by first | exact Or.inl rfl | exact Or.inr rfl) (o_val (e_bin d_sub (e_un d_neg e_int) (e_name (pv 3)))))) b_nil)
  (b_one (s_if (t_cmp d_ge (e_name (pv 3)) (e_bin d_pow e_int e_int) (nomark _)) (b_one (s_for (i_range1 rfl T.n_range (a_cons e_int a_nil)) (g_name (i := 4) rfl (by first | exact Or.inl rfl | exact Or.inr rfl)) (b_one (s_if (t_cmp d_gt (e_name (pv 3)) e_int (nomark _)) (b_cons (s_expr (e_append (pv 1) (e_bin d_mod (e_callTy d_intf rfl T.n_int (by decide +kernel) (a_cons (e_name (pv 3)) a_nil)) e_int)))
  (b_one (s_set (i := 3) rfl (by first | exact Or.inl rfl | exact Or.inr rfl) (o_val (e_bin d_div (e_name (pv 3)) e_int))))) b_nil)))) (b_one (s_for (i_range1 rfl T.n_range (a_cons e_int a_nil)) (g_name (i := 4) rfl (by first | exact Or.inl rfl | exact Or.inr rfl)) (b_cons (s_set (i := 5) rfl (by first | exact Or.inl rfl | exact Or.inr rfl) (o_val (e_bin d_mod (e_callTy d_intf rfl T.n_int (by decide +kernel) (a_cons (e_bin d_add (e_bin d_add (e_bin d_mul (e_name (pv 3)) e_int) (e_bin d_mul (e_name (pv 4)) e_int)) e_int) a_nil)) e_int)))
  (b_one (s_expr (e_append (pv 1) (e_bin d_mod (e_callTy d_intf rfl T.n_int (by decide +kernel) (a_cons (e_bin d_add (e_bin d_mul (e_name (pv 5)) e_int) (e_bin d_div (e_name (pv 5)) e_int)) a_nil)) e_int))))))))))))
  (b_one (s_ret (o_val (e_name (pv 1)))))))
theorem ok5 (T : Txt K mg fa fd ta w.params cl) (n : Nat)  : Ok P w K mg base fa fd cl (n + 1) 5 P5 := by
  refine def_ok (k := 2 * n + 1) (N := N5) (body := b5 (call n)) T.f5 sc5 fun cd A outer s H E lk hr => ?_
  let C := cfOf (P := P) (w := w) (K := K) (mg := mg) (base := base) cl (2 * n + 1) N5 P5 "_law_draw" (defScope s5) (fa 5) cd A outer s H E sc5 hr
  show DB C lk (defBody s5) (b5 (call n))
  delta b5
  exact (b_cons (s_if (t_cmp d_lt (e_name (pv 1)) (e_callB d_len rfl T.n_len (by decide +kernel) (a_cons (e_name (pv 0)) a_nil)) (nomark _)) (b_one (s_ret (o_val (e_bin d_mod (e_callTy d_intf rfl T.n_int (by decide +kernel) (a_cons (e_ix (e_name (pv 0)) (e_name (pv 1)) (fun _ _ => rfl)) a_nil)) (e_name (pv 2)))))) b_nil)
  (b_cons (s_set (i := 3) rfl (by first | exact Or.inl rfl | exact Or.inr rfl) (o_val e_int))
  (b_cons (s_if (t_cmp d_gt (e_callB d_len rfl T.n_len (by decide +kernel) (a_cons (e_name (pv 0)) a_nil)) e_int (nomark _)) (b_one (s_set (i := 3) rfl (by first | exact Or.inl rfl | exact Or.inr rfl) (o_val (e_ix (e_name (pv 0)) (e_bin d_mod (e_callTy d_intf rfl T.n_int (by decide +kernel) (a_cons (e_name (pv 1)) a_nil)) (e_callB d_len rfl T.n_len (by decide +kernel) (a_cons (e_name (pv 0)) a_nil))) (fun _ _ => rfl))))) b_nil)
  (b_one (s_ret (o_val (e_bin d_mod (e_bin d_mod (e_callTy d_intf rfl T.n_int (by decide +kernel) (a_cons (e_bin d_add (e_bin d_mul (e_bin d_mul (e_bin d_add (e_name (pv 3)) (e_name (pv 1))) (e_bin d_add (e_name (pv 1)) e_int)) e_int) (e_bin d_mul (e_name (pv 1)) e_int)) a_nil)) e_int) (e_name (pv 2)))))))))
theorem ok6 (T : Txt K mg fa fd ta w.params cl) (n : Nat) (G6 : Ok P w K mg base fa fd cl n 6 P6) : Ok P w K mg base fa fd cl (n + 1) 6 P6 := by
  refine def_ok (k := 2 * n + 1) (N := N6) (body := b6 (call n)) T.f6 sc6 fun cd A outer s H E lk hr => ?_
  let C := cfOf (P := P) (w := w) (K := K) (mg := mg) (base := base) cl (2 * n + 1) N6 P6 "_law_equal" (defScope s6) (fa 6) cd A outer s H E sc6 hr
  show DB C lk (defBody s6) (b6 (call n))
  delta b6
  exact (b_cons (s_if (t_isN (e_name (pv 1))) (b_one (s_ret (o_val (e_isN (e_name (pv 0)))))) b_nil)
  (b_cons (s_if (t_tru (e_isi .bool rfl rfl T.n_isinstance boot_isi (e_name (pv 1)) rfl T.n_bool (by decide +kernel)) (fun _ => rfl)) (b_one (s_ret (o_val (e_and (e_isi .bool rfl rfl T.n_isinstance boot_isi (e_name (pv 0)) rfl T.n_bool (by decide +kernel)) (e_one (e_cmp (d_eq C.hu64) (e_name (pv 0)) (e_name (pv 1)) (nomark _))))))) b_nil)
  (b_cons (s_if (t_tru (e_isi .int rfl rfl T.n_isinstance boot_isi (e_name (pv 1)) rfl T.n_int (by decide +kernel)) (fun _ => rfl)) (b_one (s_ret (o_val (e_and (e_isi .int rfl rfl T.n_isinstance boot_isi (e_name (pv 0)) rfl T.n_int (by decide +kernel)) (e_and (e_not (e_isi .bool rfl rfl T.n_isinstance boot_isi (e_name (pv 0)) rfl T.n_bool (by decide +kernel))) (e_one (e_cmp (d_eq C.hu64) (e_name (pv 0)) (e_name (pv 1)) (nomark _)))))))) b_nil)
  (b_cons (s_if (t_tru (e_isi .str rfl rfl T.n_isinstance boot_isi (e_name (pv 1)) rfl T.n_str (by decide +kernel)) (fun _ => rfl)) (b_one (s_ret (o_val (e_and (e_isi .str rfl rfl T.n_isinstance boot_isi (e_name (pv 0)) rfl T.n_str (by decide +kernel)) (e_one (e_cmp (d_eq C.hu64) (e_name (pv 0)) (e_name (pv 1)) (nomark _))))))) b_nil)
  (b_cons (s_if (t_bool (w_and (t_tru (e_isi .tuple rfl rfl T.n_isinstance boot_isi (e_name (pv 1)) rfl T.n_tuple (by decide +kernel)) (fun _ => rfl)) (w_and1 (t_not (t_tru (e_isi .tuple rfl rfl T.n_isinstance boot_isi (e_name (pv 0)) rfl T.n_tuple (by decide +kernel)) (fun _ => rfl)))))) (b_one (s_ret (o_val e_bl))) b_nil)
  (b_cons (s_if (t_bool (w_and (t_tru (e_isi .list rfl rfl T.n_isinstance boot_isi (e_name (pv 1)) rfl T.n_list (by decide +kernel)) (fun _ => rfl)) (w_and1 (t_not (t_tru (e_isi .list rfl rfl T.n_isinstance boot_isi (e_name (pv 0)) rfl T.n_list (by decide +kernel)) (fun _ => rfl)))))) (b_one (s_ret (o_val e_bl))) b_nil)
  (b_cons (s_if (t_cmp (d_ne C.hu64) (e_callB d_len rfl T.n_len (by decide +kernel) (a_cons (e_name (pv 0)) a_nil)) (e_callB d_len rfl T.n_len (by decide +kernel) (a_cons (e_name (pv 1)) a_nil)) (nomark _)) (b_one (s_ret (o_val e_bl))) b_nil)
  (b_cons (s_for (i_range1 rfl T.n_range (a_cons (e_callB d_len rfl T.n_len (by decide +kernel) (a_cons (e_name (pv 1)) a_nil)) a_nil)) (g_name (i := 2) rfl (by first | exact Or.inl rfl | exact Or.inr rfl)) (b_one (s_if (t_not (t_tru (e_frz (o_call G6 (Nat.le_succ _) rfl T.m6 T.f6.kp T.b6 (c_val (e_ix (e_name (pv 0)) (e_name (pv 2)) (fun _ _ => rfl)) (c_val (e_ix (e_name (pv 1)) (e_name (pv 2)) (fun _ _ => rfl)) c_nil)))) (fun _ => rfl))) (b_one (s_ret (o_val e_bl))) b_nil)))
  (b_one (s_ret (o_val e_bl)))))))))))
theorem ok7 (T : Txt K mg fa fd ta w.params cl) (n : Nat) (G5 : Ok P w K mg base fa fd cl n 5 P5) : Ok P w K mg base fa fd cl (n + 1) 7 P7 := by
  refine def_ok (k := 2 * n + 1) (N := N7) (body := b7 (call n)) T.f7 sc7 fun cd A outer s H E lk hr => ?_
  let C := cfOf (P := P) (w := w) (K := K) (mg := mg) (base := base) cl (2 * n + 1) N7 P7 "_law_take" (defScope s7) (fa 7) cd A outer s H E sc7 hr
  show DB C lk (defBody s7) (b7 (call n))
  delta b7
  exact (b_cons (s_seti (pv 0) e_int (e_bin d_add (e_ixv (pv 0) e_int (fun _ _ => rfl)) e_int))
  (b_one (s_ret (o_call G5 (Nat.le_succ _) rfl T.m5 T.f5.kp T.b5 (c_val (e_ixv (pv 0) e_int (fun _ _ => rfl)) (c_val (e_ixv (pv 0) e_int (fun _ _ => rfl)) (c_val (e_name (pv 1)) c_nil)))))))
theorem ok8 (T : Txt K mg fa fd ta w.params cl) (n : Nat) (G7 : Ok P w K mg base fa fd cl n 7 P7) : Ok P w K mg base fa fd cl (n + 1) 8 P8 := by
  refine def_ok (k := 2 * n + 1) (N := N8) (body := b8 (call n)) T.f8 sc8 fun cd A outer s H E lk hr => ?_
  let C := cfOf (P := P) (w := w) (K := K) (mg := mg) (base := base) cl (2 * n + 1) N8 P8 "_law_names" (defScope s8) (fa 8) cd A outer s H E sc8 hr
  show DB C lk (defBody s8) (b8 (call n))
  delta b8
  exact (b_cons (s_set (i := 1) rfl (by first | exact Or.inl rfl | exact Or.inr rfl) (o_lst (a_cons e_str (a_cons e_str (a_cons e_str (a_cons e_str (a_cons e_str (a_cons e_str (a_cons e_str a_nil)))))))))
  (b_cons (s_set (i := 2) rfl (by first | exact Or.inl rfl | exact Or.inr rfl) (o_call G7 (Nat.le_succ _) rfl T.m7 T.f7.kp T.b7 (c_lend (pv 0) (c_val e_int c_nil))))
  (b_one (s_ret (o_val (e_callTy d_tuple rfl T.n_tuple (by decide +kernel) (a_cons (e_frz (o_lc (own := [("_law_k", 3)]) { ok := blkOk_by (show blkC N8 (defScope s8) _ [("_law_k", 3)] = true by decide +kernel), tg := fun _ _ _ _ _ _ => (g_name (i := 3) rfl (by first | exact Or.inl rfl | exact Or.inr rfl)), tt := fun _ _ _ _ _ => tt_nil, el := fun _ _ _ _ _ => (e_ix (e_name (pv 1)) (e_bin d_mod (e_callTy d_intf rfl T.n_int (by decide +kernel) (a_cons (e_bin d_add (e_name (pv 2)) (e_bin d_mul e_int (e_name (pv 3)))) a_nil)) e_int) (fun _ _ => rfl)) } (i_range1 rfl T.n_range (a_cons (e_bin d_add e_int (e_frz (o_call G7 (Nat.le_succ _) rfl T.m7 T.f7.kp T.b7 (c_lend (pv 0) (c_val e_int c_nil))))) a_nil)))) a_nil)))))))
theorem ok9 (T : Txt K mg fa fd ta w.params cl) (n : Nat) (G7 : Ok P w K mg base fa fd cl n 7 P7) : Ok P w K mg base fa fd cl (n + 1) 9 P9 := by
  refine def_ok (k := 2 * n + 1) (N := N9) (body := b9 (call n)) T.f9 sc9 fun cd A outer s H E lk hr => ?_
  let C := cfOf (P := P) (w := w) (K := K) (mg := mg) (base := base) cl (2 * n + 1) N9 P9 "_law_leaf" (defScope s9) (fa 9) cd A outer s H E sc9 hr
  show DB C lk (defBody s9) (b9 (call n))
  delta b9
  exact (b_cons (s_set (i := 2) rfl (by first | exact Or.inl rfl | exact Or.inr rfl) (o_call G7 (Nat.le_succ _) rfl T.m7 T.f7.kp T.b7 (c_lend (pv 0) (c_val e_int c_nil))))
  (b_cons (s_if (t_cmp d_lt (e_name (pv 2)) e_int (nomark _)) (b_one (s_ret (o_val (e_tup (a_cons e_str a_nil))))) b_nil)
  (b_cons (s_if (t_cmp (d_eq C.hu64) (e_name (pv 2)) e_int (nomark _)) (b_one (s_ret (o_val (e_tup (a_cons e_str a_nil))))) b_nil)
  (b_one (s_ret (o_val (e_tup (a_cons e_str (a_cons (e_ix (e_name (pv 1)) (e_frz (o_call G7 (Nat.le_succ _) rfl T.m7 T.f7.kp T.b7 (c_lend (pv 0) (c_val (e_callB d_len rfl T.n_len (by decide +kernel) (a_cons (e_name (pv 1)) a_nil)) c_nil)))) (fun _ _ => rfl)) a_nil)))))))))
theorem ok10 (T : Txt K mg fa fd ta w.params cl) (n : Nat) (G10 : Ok P w K mg base fa fd cl n 10 P10) (G7 : Ok P w K mg base fa fd cl n 7 P7) (G9 : Ok P w K mg base fa fd cl n 9 P9) : Ok P w K mg base fa fd cl (n + 1) 10 P10 := by
  refine def_ok (k := 2 * n + 1) (N := N10) (body := b10 (call n)) T.f10 sc10 fun cd A outer s H E lk hr => ?_
  let C := cfOf (P := P) (w := w) (K := K) (mg := mg) (base := base) cl (2 * n + 1) N10 P10 "_law_tree" (defScope s10) (fa 10) cd A outer s H E sc10 hr
  show DB C lk (defBody s10) (b10 (call n))
  delta b10
  exact (b_cons (s_set (i := 3) rfl (by first | exact Or.inl rfl | exact Or.inr rfl) (o_call G7 (Nat.le_succ _) rfl T.m7 T.f7.kp T.b7 (c_lend (pv 0) (c_val e_int c_nil))))
  (b_cons (s_if (t_bool (w_or (t_cmp d_lt (e_name (pv 2)) e_int (nomark _)) (w_or1 (t_cmp (d_eq C.hu64) (e_name (pv 3)) e_int (nomark _))))) (b_one (s_ret (o_call G9 (Nat.le_succ _) rfl T.m9 T.f9.kp T.b9 (c_lend (pv 0) (c_val (e_name (pv 1)) c_nil))))) b_nil)
  (b_cons (s_if (t_cmp d_lt (e_name (pv 3)) e_int (nomark _)) (b_one (s_ret (o_val (e_tup (a_cons (e_ix (e_frz (o_lst (a_cons e_str (a_cons e_str (a_cons e_str a_nil))))) (e_bin d_sub (e_name (pv 3)) e_int) (fun _ _ => rfl)) (a_cons (e_frz (o_call G10 (Nat.le_succ _) rfl T.m10 T.f10.kp T.b10 (c_lend (pv 0) (c_val (e_name (pv 1)) (c_val (e_bin d_sub (e_name (pv 2)) e_int) c_nil))))) a_nil)))))) b_nil)
  (b_cons (s_if (t_cmp d_lt (e_name (pv 3)) e_int (nomark _)) (b_cons (s_set (i := 6) rfl (by first | exact Or.inl rfl | exact Or.inr rfl) (o_val (e_ix (e_frz (o_lst (a_cons e_int (a_cons e_int (a_cons e_int a_nil))))) (e_bin d_sub (e_name (pv 3)) e_int) (fun _ _ => rfl))))
  (b_one (s_ret (o_val (e_tup (a_cons (e_ix (e_frz (o_lst (a_cons e_str (a_cons e_str (a_cons e_str a_nil))))) (e_bin d_sub (e_name (pv 3)) e_int) (fun _ _ => rfl)) (a_cons (e_bin d_add e_int (e_frz (o_call G7 (Nat.le_succ _) rfl T.m7 T.f7.kp T.b7 (c_lend (pv 0) (c_val (e_name (pv 6)) c_nil))))) (a_cons (e_frz (o_call G10 (Nat.le_succ _) rfl T.m10 T.f10.kp T.b10 (c_lend (pv 0) (c_val (e_name (pv 1)) (c_val (e_bin d_sub (e_name (pv 2)) e_int) c_nil))))) a_nil)))))))) b_nil)
  (b_cons (s_if (t_cmp (d_eq C.hu64) (e_name (pv 3)) e_int (nomark _)) (b_cons (s_set (i := 6) rfl (by first | exact Or.inl rfl | exact Or.inr rfl) (o_val (e_bin d_add e_int (e_frz (o_call G7 (Nat.le_succ _) rfl T.m7 T.f7.kp T.b7 (c_lend (pv 0) (c_val e_int c_nil)))))))
  (b_one (s_ret (o_val (e_tup (a_cons e_str (a_cons (e_name (pv 6)) (a_cons (e_frz (o_call G7 (Nat.le_succ _) rfl T.m7 T.f7.kp T.b7 (c_lend (pv 0) (c_val (e_name (pv 6)) c_nil)))) (a_cons (e_frz (o_call G10 (Nat.le_succ _) rfl T.m10 T.f10.kp T.b10 (c_lend (pv 0) (c_val (e_name (pv 1)) (c_val (e_bin d_sub (e_name (pv 2)) e_int) c_nil))))) a_nil))))))))) b_nil)
  (b_cons (s_if (t_bool (w_and (t_cmp d_lt (e_name (pv 3)) e_int (nomark _)) (w_and1 (t_cmp d_gt (e_name (pv 2)) e_int (nomark _))))) (b_cons (s_setLc (i := 7) (own := [("_law_k", 8)]) rfl rfl (sw_true rfl rfl rfl (by decide +kernel)) { ok := blkOk_by (show blkC N10 (defScope s10) _ [("_law_k", 8)] = true by decide +kernel), tg := fun _ _ _ _ _ _ => (g_name (i := 8) rfl (by first | exact Or.inl rfl | exact Or.inr rfl)), tt := fun _ _ _ _ _ => tt_nil, el := fun _ _ _ _ _ => (e_frz (o_call G10 (Nat.le_succ _) rfl T.m10 T.f10.kp T.b10 (c_lend (pv 0) (c_val (e_name (pv 1)) (c_val (e_bin d_div (e_bin d_sub (e_name (pv 2)) e_int) e_int) c_nil))))) } (i_range1 rfl T.n_range (a_cons e_int a_nil)))
  (b_one (s_ret (o_val (e_tup (a_cons e_str (a_cons (e_ix (e_name (pv 7)) e_int (fun _ _ => rfl)) (a_cons (e_ix (e_name (pv 7)) e_int (fun _ _ => rfl)) (a_cons (e_ix (e_name (pv 7)) e_int (fun _ _ => rfl)) a_nil))))))))) b_nil)
  (b_cons (s_if (t_cmp d_lt (e_name (pv 2)) e_int (nomark _)) (b_one (s_ret (o_val (e_tup (a_cons e_str (a_cons (e_frz (o_call G9 (Nat.le_succ _) rfl T.m9 T.f9.kp T.b9 (c_lend (pv 0) (c_val (e_name (pv 1)) c_nil)))) a_nil)))))) b_nil)
  (b_cons (s_set (i := 4) rfl (by first | exact Or.inl rfl | exact Or.inr rfl) (o_val (e_bin d_add e_int (e_frz (o_call G7 (Nat.le_succ _) rfl T.m7 T.f7.kp T.b7 (c_lend (pv 0) (c_val (e_bin d_sub (e_name (pv 2)) e_int) c_nil)))))))
  (b_cons (s_set (i := 5) rfl (by first | exact Or.inl rfl | exact Or.inr rfl) (o_val (e_ix (e_frz (o_lst (a_cons e_str (a_cons e_str (a_cons e_str (a_cons e_str (a_cons e_str (a_cons e_str (a_cons e_str (a_cons e_str a_nil)))))))))) (e_bin d_mod (e_callTy d_intf rfl T.n_int (by decide +kernel) (a_cons (e_name (pv 3)) a_nil)) e_int) (fun _ _ => rfl))))
  (b_one (s_ret (o_val (e_tup (a_cons (e_name (pv 5)) (a_cons (e_frz (o_call G10 (Nat.le_succ _) rfl T.m10 T.f10.kp T.b10 (c_lend (pv 0) (c_val (e_name (pv 1)) (c_val (e_name (pv 4)) c_nil))))) (a_cons (e_frz (o_call G10 (Nat.le_succ _) rfl T.m10 T.f10.kp T.b10 (c_lend (pv 0) (c_val (e_name (pv 1)) (c_val (e_bin d_sub (e_bin d_sub (e_name (pv 2)) e_int) (e_name (pv 4))) c_nil))))) a_nil))))))))))))))))
theorem ok11 (T : Txt K mg fa fd ta w.params cl) (n : Nat) (G11 : Ok P w K mg base fa fd cl n 11 P11) : Ok P w K mg base fa fd cl (n + 1) 11 P11 := by
  refine def_ok (k := 2 * n + 1) (N := N11) (body := b11 (call n)) T.f11 sc11 fun cd A outer s H E lk hr => ?_
  let C := cfOf (P := P) (w := w) (K := K) (mg := mg) (base := base) cl (2 * n + 1) N11 P11 "_law_text" (defScope s11) (fa 11) cd A outer s H E sc11 hr
  show DB C lk (defBody s11) (b11 (call n))
  delta b11
  exact (b_cons (s_if (t_cmp (d_eq C.hu64) (e_callB d_len rfl T.n_len (by decide +kernel) (a_cons (e_name (pv 0)) a_nil)) e_int (nomark _)) (b_one (s_ret (o_val (e_ix (e_name (pv 0)) e_int (fun _ _ => rfl))))) b_nil)
  (b_cons (s_set (i := 1) rfl (by first | exact Or.inl rfl | exact Or.inr rfl) (o_lst a_nil))
  (b_cons (s_for (i_seq (e_sl (e_name (pv 0)) (p_some e_int) p_none)) (g_name (i := 2) rfl (by first | exact Or.inl rfl | exact Or.inr rfl)) (b_one (s_if (t_tru (e_isi .tuple rfl rfl T.n_isinstance boot_isi (e_name (pv 2)) rfl T.n_tuple (by decide +kernel)) (fun _ => rfl)) (b_one (s_expr (e_append (pv 1) (e_frz (o_call G11 (Nat.le_succ _) rfl T.m11 T.f11.kp T.b11 (c_val (e_name (pv 2)) c_nil)))))) (b_one (s_expr (e_append (pv 1) (e_callTy d_str2 rfl T.n_str (by decide +kernel) (a_cons (e_name (pv 2)) a_nil))))))))
  (b_one (s_ret (o_val (e_bin d_add (e_bin d_add (e_bin d_add (e_ix (e_name (pv 0)) e_int (fun _ _ => rfl)) e_str) (e_join e_str (e_name (pv 1)))) e_str)))))))
theorem ok12 (T : Txt K mg fa fd ta w.params cl) (n : Nat)  : Ok P w K mg base fa fd cl (n + 1) 12 P12 := by
  refine def_ok (k := 2 * n + 1) (N := N12) (body := b12 (call n)) T.f12 sc12 fun cd A outer s H E lk hr => ?_
  let C := cfOf (P := P) (w := w) (K := K) (mg := mg) (base := base) cl (2 * n + 1) N12 P12 "_law_split" (defScope s12) (fa 12) cd A outer s H E sc12 hr
  show DB C lk (defBody s12) (b12 (call n))
  delta b12
  exact (b_cons (s_set (i := 1) rfl (by first | exact Or.inl rfl | exact Or.inr rfl) (o_val e_int))
  (b_cons (s_set (i := 2) rfl (by first | exact Or.inl rfl | exact Or.inr rfl) (o_lst (a_cons e_str a_nil)))
  (b_cons (s_for (i_seq (e_name (pv 0))) (g_name (i := 3) rfl (by first | exact Or.inl rfl | exact Or.inr rfl)) (b_cons (s_if (t_cmp (d_eq C.hu64) (e_name (pv 3)) e_str (nomark _)) (b_one (s_set (i := 1) rfl (by first | exact Or.inl rfl | exact Or.inr rfl) (o_val (e_bin d_add (e_name (pv 1)) e_int)))) b_nil)
  (b_cons (s_if (t_cmp (d_eq C.hu64) (e_name (pv 3)) e_str (nomark _)) (b_one (s_set (i := 1) rfl (by first | exact Or.inl rfl | exact Or.inr rfl) (o_val (e_bin d_sub (e_name (pv 1)) e_int)))) b_nil)
  (b_cons (s_if (t_cmp d_lt (e_name (pv 1)) e_int (nomark _)) (b_one (s_ret (o_val e_non))) b_nil)
  (b_one (s_if (t_bool (w_and (t_cmp (d_eq C.hu64) (e_name (pv 3)) e_str (nomark _)) (w_and1 (t_cmp (d_eq C.hu64) (e_name (pv 1)) e_int (nomark _))))) (b_one (s_expr (e_append (pv 2) e_str))) (b_one (s_seti (pv 2) (e_un d_neg e_int) (e_bin d_add (e_ixv (pv 2) (e_un d_neg e_int) (fun _ _ => rfl)) (e_name (pv 3)))))))))))
  (b_cons (s_if (t_cmp d_gt (e_name (pv 1)) e_int (nomark _)) (b_one (s_ret (o_val e_non))) b_nil)
  (b_one (s_ret (o_val (e_name (pv 2)))))))))
theorem ok13 (T : Txt K mg fa fd ta w.params cl) (n : Nat)  : Ok P w K mg base fa fd cl (n + 1) 13 P13 := by
  refine def_ok (k := 2 * n + 1) (N := N13) (body := b13 (call n)) T.f13 sc13 fun cd A outer s H E lk hr => ?_
  let C := cfOf (P := P) (w := w) (K := K) (mg := mg) (base := base) cl (2 * n + 1) N13 P13 "_law_numbered" (defScope s13) (fa 13) cd A outer s H E sc13 hr
  show DB C lk (defBody s13) (b13 (call n))
  delta b13
  exact (b_cons (s_if (t_cmp (d_eq C.hu64) (e_name (pv 0)) e_str (nomark _)) (b_cons (s_if (t_bool (w_or (t_cmp (d_ne C.hu64) (e_callB d_len rfl T.n_len (by decide +kernel) (a_cons (e_name (pv 1)) a_nil)) e_int (nomark _)) (w_or (t_cmp (d_notin C.hu65) (e_ix (e_name (pv 1)) e_int (fun _ _ => rfl)) (e_tup (a_cons e_str (a_cons e_str a_nil))) (by with_unfolding_all rfl)) (w_or1 (t_cmp (d_notin C.hu65) (e_ix (e_name (pv 1)) e_int (fun _ _ => rfl)) (e_tup (a_cons e_str (a_cons e_str (a_cons e_str a_nil)))) (by with_unfolding_all rfl)))))) (b_one (s_ret (o_val e_non))) b_nil)
  (b_cons (s_if (t_cmp d_ge (e_callTy d_intf rfl T.n_int (by decide +kernel) (a_cons (e_ix (e_name (pv 1)) e_int (fun _ _ => rfl)) a_nil)) (e_callTy d_intf rfl T.n_int (by decide +kernel) (a_cons (e_ix (e_name (pv 1)) e_int (fun _ _ => rfl)) a_nil)) (nomark _)) (b_one (s_ret (o_val e_non))) b_nil)
  (b_one (s_ret (o_val (e_tup (a_cons (e_name (pv 0)) (a_cons (e_callTy d_intf rfl T.n_int (by decide +kernel) (a_cons (e_ix (e_name (pv 1)) e_int (fun _ _ => rfl)) a_nil)) (a_cons (e_callTy d_intf rfl T.n_int (by decide +kernel) (a_cons (e_ix (e_name (pv 1)) e_int (fun _ _ => rfl)) a_nil)) a_nil))))))))) b_nil)
  (b_cons (s_set (i := 2) rfl (by first | exact Or.inl rfl | exact Or.inr rfl) (o_val (e_tup (a_cons e_str (a_cons e_str a_nil)))))
  (b_cons (s_if (t_cmp (d_eq C.hu64) (e_name (pv 0)) e_str (nomark _)) (b_one (s_set (i := 2) rfl (by first | exact Or.inl rfl | exact Or.inr rfl) (o_val (e_tup (a_cons e_str (a_cons e_str (a_cons e_str a_nil))))))) b_nil)
  (b_cons (s_if (t_bool (w_or (t_cmp (d_ne C.hu64) (e_callB d_len rfl T.n_len (by decide +kernel) (a_cons (e_name (pv 1)) a_nil)) e_int (nomark _)) (w_or1 (t_cmp (d_notin C.hu65) (e_ix (e_name (pv 1)) e_int (fun _ _ => rfl)) (e_name (pv 2)) (by with_unfolding_all rfl))))) (b_one (s_ret (o_val e_non))) b_nil)
  (b_one (s_ret (o_val (e_tup (a_cons (e_name (pv 0)) (a_cons (e_callTy d_intf rfl T.n_int (by decide +kernel) (a_cons (e_ix (e_name (pv 1)) e_int (fun _ _ => rfl)) a_nil)) a_nil))))))))))
theorem ok14 (T : Txt K mg fa fd ta w.params cl) (n : Nat) (G14 : Ok P w K mg base fa fd cl n 14 P14) (G13 : Ok P w K mg base fa fd cl n 13 P13) (G12 : Ok P w K mg base fa fd cl n 12 P12) : Ok P w K mg base fa fd cl (n + 1) 14 P14 := by
  refine def_ok (k := 2 * n + 1) (N := N14) (body := b14 (call n)) T.f14 sc14 fun cd A outer s H E lk hr => ?_
  let C := cfOf (P := P) (w := w) (K := K) (mg := mg) (base := base) cl (2 * n + 1) N14 P14 "_law_read" (defScope s14) (fa 14) cd A outer s H E sc14 hr
  show DB C lk (defBody s14) (b14 (call n))
  delta b14
  exact (b_cons (s_if (t_bool (w_or (t_cmp (d_eq C.hu64) (e_name (pv 0)) e_str (nomark _)) (w_or1 (t_cmp (d_eq C.hu64) (e_name (pv 0)) e_str (nomark _))))) (b_one (s_ret (o_val (e_tup (a_cons (e_name (pv 0)) a_nil))))) b_nil)
  (b_cons (s_set (i := 2) rfl (by first | exact Or.inl rfl | exact Or.inr rfl) (o_val (e_find (e_name (pv 0)) e_str)))
  (b_cons (s_if (t_bool (w_or (t_cmp d_lt (e_name (pv 2)) e_int (nomark _)) (w_or1 (t_cmp (d_ne C.hu64) (e_ix (e_name (pv 0)) (e_bin d_sub (e_callB d_len rfl T.n_len (by decide +kernel) (a_cons (e_name (pv 0)) a_nil)) e_int) (fun _ _ => rfl)) e_str (nomark _))))) (b_one (s_ret (o_val e_non))) b_nil)
  (b_cons (s_set (i := 3) rfl (by first | exact Or.inl rfl | exact Or.inr rfl) (o_val (e_sl (e_name (pv 0)) p_none (p_some (e_name (pv 2))))))
  (b_cons (s_set (i := 4) rfl (by first | exact Or.inl rfl | exact Or.inr rfl) (o_call G12 (Nat.le_succ _) rfl T.m12 T.f12.kp T.b12 (c_val (e_sl (e_name (pv 0)) (p_some (e_bin d_add (e_name (pv 2)) e_int)) (p_some (e_bin d_sub (e_callB d_len rfl T.n_len (by decide +kernel) (a_cons (e_name (pv 0)) a_nil)) e_int))) c_nil)))
  (b_cons (s_if (t_isN (e_name (pv 4))) (b_one (s_ret (o_val e_non))) b_nil)
  (b_cons (s_if (t_cmp (d_eq C.hu64) (e_name (pv 3)) e_str (nomark _)) (b_one (s_ret (o_val (e_if (t_bool (w_and (t_cmp (d_eq C.hu64) (e_callB d_len rfl T.n_len (by decide +kernel) (a_cons (e_name (pv 4)) a_nil)) e_int (nomark _)) (w_and1 (t_cmp (d_in C.hu65) (e_ix (e_name (pv 4)) e_int (fun _ _ => rfl)) (e_name (pv 1)) (by with_unfolding_all rfl))))) (e_tup (a_cons (e_name (pv 3)) (a_cons (e_ix (e_name (pv 4)) e_int (fun _ _ => rfl)) a_nil))) e_non)))) b_nil)
  (b_cons (s_set (i := 5) rfl (by first | exact Or.inl rfl | exact Or.inr rfl) (o_val (e_tup (a_cons (e_name (pv 3)) a_nil))))
  (b_cons (s_set (i := 6) rfl (by first | exact Or.inl rfl | exact Or.inr rfl) (o_val (e_name (pv 4))))
  (b_cons (s_if (t_cmp (d_in C.hu65) (e_name (pv 3)) (e_tup (a_cons e_str (a_cons e_str (a_cons e_str (a_cons e_str a_nil))))) (by with_unfolding_all rfl)) (b_cons (s_set (i := 5) rfl (by first | exact Or.inl rfl | exact Or.inr rfl) (o_call G13 (Nat.le_succ _) rfl T.m13 T.f13.kp T.b13 (c_val (e_name (pv 3)) (c_val (e_name (pv 4)) c_nil))))
  (b_one (s_set (i := 6) rfl (by first | exact Or.inl rfl | exact Or.inr rfl) (o_val (e_sl (e_name (pv 4)) (p_some (e_bin d_sub (e_callB d_len rfl T.n_len (by decide +kernel) (a_cons (e_name (pv 4)) a_nil)) e_int)) p_none))))) (b_dget (i := 8) (tb := [("less", 2), ("same", 2), ("if", 3), ("last", 1), ("first", 1), ("before", 1), ("since", 2), ("among", 2)]) (d0 := 0) rfl (by first | exact Or.inl rfl | exact Or.inr rfl) (by first | exact Or.inl rfl | exact Or.inr rfl) (pps_cons pe_str pe_int (pps_cons pe_str pe_int (pps_cons pe_str pe_int (pps_cons pe_str pe_int (pps_cons pe_str pe_int (pps_cons pe_str pe_int (pps_cons pe_str pe_int (pps_cons pe_str pe_int pps_nil)))))))) (by with_unfolding_all rfl) (by decide) rfl rfl (fun h => nomatch h) (by decide) C.hu65 (e_name (pv 3)) (e_callB d_len rfl T.n_len (by decide +kernel) (a_cons (e_name (pv 4)) a_nil)) (b_one (s_ret (o_val e_non)))
  b_nil (d_ne C.hu64) (nomark _) ⟨rfl, rfl, rfl, rfl⟩))
  (b_cons (s_if (t_isN (e_name (pv 5))) (b_one (s_ret (o_val e_non))) b_nil)
  (b_cons (s_for (i_seq (e_name (pv 6))) (g_name (i := 7) rfl (by first | exact Or.inl rfl | exact Or.inr rfl)) (b_cons (s_set (i := 9) rfl (by first | exact Or.inl rfl | exact Or.inr rfl) (o_call G14 (Nat.le_succ _) rfl T.m14 T.f14.kp T.b14 (c_val (e_name (pv 7)) (c_val (e_name (pv 1)) c_nil))))
  (b_cons (s_if (t_isN (e_name (pv 9))) (b_one (s_ret (o_val e_non))) b_nil)
  (b_one (s_set (i := 5) rfl (by first | exact Or.inl rfl | exact Or.inr rfl) (o_val (e_bin d_add (e_name (pv 5)) (e_tup (a_cons (e_name (pv 9)) a_nil)))))))))
  (b_one (s_ret (o_val (e_name (pv 5)))))))))))))))))
theorem ok15 (T : Txt K mg fa fd ta w.params cl) (n : Nat) (G7 : Ok P w K mg base fa fd cl n 7 P7) : Ok P w K mg base fa fd cl (n + 1) 15 P15 := by
  refine def_ok (k := 2 * n + 1) (N := N15) (body := b15 (call n)) T.f15 sc15 fun cd A outer s H E lk hr => ?_
  let C := cfOf (P := P) (w := w) (K := K) (mg := mg) (base := base) cl (2 * n + 1) N15 P15 "_law_changed" (defScope s15) (fa 15) cd A outer s H E sc15 hr
  show DB C lk (defBody s15) (b15 (call n))
  delta b15
  exact (b_cons (s_set (i := 3) rfl (by first | exact Or.inl rfl | exact Or.inr rfl) (o_val (e_bin d_add (e_frz (o_lst (a_cons e_str (a_cons e_str (a_cons e_str (a_cons e_str (a_cons e_str (a_cons e_str (a_cons e_str (a_cons e_str (a_cons e_str (a_cons e_str (a_cons e_str (a_cons e_str (a_cons e_str (a_cons e_str (a_cons e_str (a_cons e_str (a_cons e_str (a_cons e_str (a_cons e_str (a_cons e_str (a_cons e_str (a_cons e_str (a_cons e_str a_nil))))))))))))))))))))))))) (e_callTy d_list rfl T.n_list (by decide +kernel) (a_cons (e_name (pv 2)) a_nil)))))
  (b_cons (s_set (i := 4) rfl (by first | exact Or.inl rfl | exact Or.inr rfl) (o_val (e_ix (e_name (pv 3)) (e_frz (o_call G7 (Nat.le_succ _) rfl T.m7 T.f7.kp T.b7 (c_lend (pv 0) (c_val (e_callB d_len rfl T.n_len (by decide +kernel) (a_cons (e_name (pv 3)) a_nil)) c_nil)))) (fun _ _ => rfl))))
  (b_cons (s_set (i := 5) rfl (by first | exact Or.inl rfl | exact Or.inr rfl) (o_call G7 (Nat.le_succ _) rfl T.m7 T.f7.kp T.b7 (c_lend (pv 0) (c_val (e_bin d_add (e_callB d_len rfl T.n_len (by decide +kernel) (a_cons (e_name (pv 1)) a_nil)) e_int) c_nil))))
  (b_cons (s_set (i := 6) rfl (by first | exact Or.inl rfl | exact Or.inr rfl) (o_val (e_ix (e_frz (o_lst (a_cons e_int (a_cons e_int (a_cons e_int (a_cons e_int a_nil)))))) (e_frz (o_call G7 (Nat.le_succ _) rfl T.m7 T.f7.kp T.b7 (c_lend (pv 0) (c_val e_int c_nil)))) (fun _ _ => rfl))))
  (b_cons (s_set (i := 7) rfl (by first | exact Or.inl rfl | exact Or.inr rfl) (o_call G7 (Nat.le_succ _) rfl T.m7 T.f7.kp T.b7 (c_lend (pv 0) (c_val e_int c_nil))))
  (b_cons (s_if (t_cmp (d_eq C.hu64) (e_name (pv 7)) e_int (nomark _)) (b_one (s_ret (o_val (e_bin d_add (e_sl (e_name (pv 1)) p_none (p_some (e_name (pv 5)))) (e_sl (e_name (pv 1)) (p_some (e_bin d_add (e_name (pv 5)) (e_name (pv 6)))) p_none))))) b_nil)
  (b_cons (s_if (t_cmp (d_eq C.hu64) (e_name (pv 7)) e_int (nomark _)) (b_one (s_ret (o_val (e_bin d_add (e_bin d_add (e_sl (e_name (pv 1)) p_none (p_some (e_name (pv 5)))) (e_sl (e_name (pv 1)) (p_some (e_name (pv 5))) (p_some (e_bin d_add (e_name (pv 5)) (e_name (pv 6)))))) (e_sl (e_name (pv 1)) (p_some (e_name (pv 5))) p_none))))) b_nil)
  (b_cons (s_if (t_cmp (d_eq C.hu64) (e_name (pv 7)) e_int (nomark _)) (b_one (s_ret (o_val (e_bin d_add (e_bin d_add (e_sl (e_name (pv 1)) p_none (p_some (e_name (pv 5)))) (e_name (pv 4))) (e_sl (e_name (pv 1)) (p_some (e_name (pv 5))) p_none))))) b_nil)
  (b_one (s_ret (o_val (e_bin d_add (e_bin d_add (e_sl (e_name (pv 1)) p_none (p_some (e_name (pv 5)))) (e_name (pv 4))) (e_sl (e_name (pv 1)) (p_some (e_bin d_add (e_name (pv 5)) (e_name (pv 6)))) p_none)))))))))))))
theorem ok16 (T : Txt K mg fa fd ta w.params cl) (n : Nat) (G6 : Ok P w K mg base fa fd cl n 6 P6) (G14 : Ok P w K mg base fa fd cl n 14 P14) (G3 : Ok P w K mg base fa fd cl n 3 P3) (G7 : Ok P w K mg base fa fd cl n 7 P7) (G15 : Ok P w K mg base fa fd cl n 15 P15) (G11 : Ok P w K mg base fa fd cl n 11 P11) (G10 : Ok P w K mg base fa fd cl n 10 P10) (G8 : Ok P w K mg base fa fd cl n 8 P8) (G4 : Ok P w K mg base fa fd cl n 4 P4) : Ok P w K mg base fa fd cl (n + 1) 16 P16 := by
  refine def_ok (k := 2 * n + 1) (N := N16) (body := b16 (call n)) T.f16 sc16 fun cd A outer s H E lk hr => ?_
  let C := cfOf (P := P) (w := w) (K := K) (mg := mg) (base := base) cl (2 * n + 1) N16 P16 "law" (defScope s16) (fa 16) cd A outer s H E sc16 hr
  show DB C lk (defBody s16) (b16 (call n))
  delta b16
  exact (b_cons (s_set (i := 1) rfl (by first | exact Or.inl rfl | exact Or.inr rfl) (o_lst (a_cons (e_frz (o_call G4 (Nat.le_succ _) rfl T.m4 T.f4.kp T.b4 (c_val (e_name (pv 0)) c_nil))) (a_cons e_int a_nil))))
  (b_cons (s_set (i := 2) rfl (by first | exact Or.inl rfl | exact Or.inr rfl) (o_call G8 (Nat.le_succ _) rfl T.m8 T.f8.kp T.b8 (c_lend (pv 1) c_nil)))
  (b_cons (s_set (i := 3) rfl (by first | exact Or.inl rfl | exact Or.inr rfl) (o_call G11 (Nat.le_succ _) rfl T.m11 T.f11.kp T.b11 (c_val (e_frz (o_call G10 (Nat.le_succ _) rfl T.m10 T.f10.kp T.b10 (c_lend (pv 1) (c_val (e_name (pv 2)) (c_val (e_bin d_add e_int (e_frz (o_call G7 (Nat.le_succ _) rfl T.m7 T.f7.kp T.b7 (c_lend (pv 1) (c_val e_int c_nil))))) c_nil))))) c_nil)))
  (b_cons (s_for (i_range1 rfl T.n_range (a_cons e_int a_nil)) (g_name (i := 4) rfl (by first | exact Or.inl rfl | exact Or.inr rfl)) (b_cons (s_set (i := 5) rfl (by first | exact Or.inl rfl | exact Or.inr rfl) (o_val (e_name (pv 3))))
  (b_cons (s_for (i_range1 rfl T.n_range (a_cons (e_bin d_add e_int (e_frz (o_call G7 (Nat.le_succ _) rfl T.m7 T.f7.kp T.b7 (c_lend (pv 1) (c_val e_int c_nil))))) a_nil)) (g_name (i := 6) rfl (by first | exact Or.inl rfl | exact Or.inr rfl)) (b_one (s_set (i := 5) rfl (by first | exact Or.inl rfl | exact Or.inr rfl) (o_call G15 (Nat.le_succ _) rfl T.m15 T.f15.kp T.b15 (c_lend (pv 1) (c_val (e_name (pv 5)) (c_val (e_name (pv 2)) c_nil)))))))
  (b_one (s_if (t_not (t_tru (e_frz (o_call G6 (Nat.le_succ _) rfl T.m6 T.f6.kp T.b6 (c_val (e_frz (o_call G3 (Nat.le_succ _) rfl T.m3 T.f3.kp T.b3 (c_val (e_name (pv 5)) (c_val (e_name (pv 2)) c_nil)))) (c_val (e_frz (o_call G14 (Nat.le_succ _) rfl T.m14 T.f14.kp T.b14 (c_val (e_name (pv 5)) (c_val (e_name (pv 2)) c_nil)))) c_nil)))) (fun _ => rfl))) (b_one (s_ret (o_val e_bl))) b_nil)))))
  (b_one (s_ret (o_call G6 (Nat.le_succ _) rfl T.m6 T.f6.kp T.b6 (c_val (e_frz (o_call G3 (Nat.le_succ _) rfl T.m3 T.f3.kp T.b3 (c_val (e_name (pv 3)) (c_val (e_name (pv 2)) c_nil)))) (c_val (e_frz (o_call G14 (Nat.le_succ _) rfl T.m14 T.f14.kp T.b14 (c_val (e_name (pv 3)) (c_val (e_name (pv 2)) c_nil)))) c_nil)))))))))
theorem all_ok (T : Txt K mg fa fd ta w.params cl) : ∀ n : Nat, Ok P w K mg base fa fd cl n 0 P0 ∧ Ok P w K mg base fa fd cl n 1 P1 ∧ Ok P w K mg base fa fd cl n 2 P2 ∧ Ok P w K mg base fa fd cl n 3 P3 ∧ Ok P w K mg base fa fd cl n 4 P4 ∧ Ok P w K mg base fa fd cl n 5 P5 ∧ Ok P w K mg base fa fd cl n 6 P6 ∧ Ok P w K mg base fa fd cl n 7 P7 ∧ Ok P w K mg base fa fd cl n 8 P8 ∧ Ok P w K mg base fa fd cl n 9 P9 ∧ Ok P w K mg base fa fd cl n 10 P10 ∧ Ok P w K mg base fa fd cl n 11 P11 ∧ Ok P w K mg base fa fd cl n 12 P12 ∧ Ok P w K mg base fa fd cl n 13 P13 ∧ Ok P w K mg base fa fd cl n 14 P14 ∧ Ok P w K mg base fa fd cl n 15 P15 ∧ Ok P w K mg base fa fd cl n 16 P16
  | 0 => ⟨none_ok, none_ok, none_ok, none_ok, none_ok, none_ok, none_ok, none_ok, none_ok, none_ok, none_ok, none_ok, none_ok, none_ok, none_ok, none_ok, none_ok⟩
  | n + 1 => by
    obtain ⟨h0, h1, h2, h3, h4, h5, h6, h7, h8, h9, h10, h11, h12, h13, h14, h15, h16⟩ := all_ok T n
    exact ⟨ok0 T n , ok1 T n h0 h2, ok2 T n h1 h0, ok3 T n h2, ok4 T n , ok5 T n , ok6 T n h6, ok7 T n h5, ok8 T n h7, ok9 T n h7, ok10 T n h10 h7 h9, ok11 T n h11, ok12 T n , ok13 T n , ok14 T n h14 h13 h12, ok15 T n h7, ok16 T n h6 h14 h3 h7 h15 h11 h10 h8 h4⟩
end
def DEEP : Nat := 60
theorem all_mk {l : PySem.W.OpenLaw} {w : World} {K : PySem.W.Frag} {h : Heap} {mg : Str → Option Value} {fz f0 f1 f2 f3 f4 f5 f6 f7 f8 f9 f10 f11 f12 f13 f14 f15 f16 : Addr} (X : K.In h) (G : h.Ns mainGlobals mg) (hfa : mg "law" = some (.ref fz))
    {od0 an0 od1 an1 od2 an2 od3 an3 od4 an4 od5 an5 od6 an6 od7 an7 od8 an8 od9 an9 od10 an10 od11 an11 od12 an12 od13 an13 od14 an14 od15 an15 od16 an16 : Option Addr} {sl0 sl1 sl2 sl3 sl4 sl5 sl6 sl7 sl8 sl9 sl10 sl11 sl12 sl13 sl14 sl15 sl16 : Array (Option Value)} {oc0 kV0 dc0 pm0 cd0 ct0 oc1 kV1 dc1 pm1 cd1 ct1 oc2 kV2 dc2 pm2 cd2 ct2 oc3 kV3 dc3 pm3 cd3 ct3 oc4 kV4 dc4 pm4 cd4 ct4 oc5 kV5 dc5 pm5 cd5 ct5 oc6 kV6 dc6 pm6 cd6 ct6 oc7 kV7 dc7 pm7 cd7 ct7 oc8 kV8 dc8 pm8 cd8 ct8 oc9 kV9 dc9 pm9 cd9 ct9 oc10 kV10 dc10 pm10 cd10 ct10 oc11 kV11 dc11 pm11 cd11 ct11 oc12 kV12 dc12 pm12 cd12 ct12 oc13 kV13 dc13 pm13 cd13 ct13 oc14 kV14 dc14 pm14 cd14 ct14 oc15 kV15 dc15 pm15 cd15 ct15 oc16 kV16 dc16 pm16 cd16 ct16 : Value}
    (a0 : PySem.W.nsIn K mainGlobals "word_end" = some (some (.ref f0))) (l0 : K.lookup f0 = some ⟨oc0, od0, .func (PySem.W.fnOf "word_end" "word_end" (defArgs s0) (defBody s0) (defScope s0) .none kV0 dc0 pm0 an0 cd0 ct0), sl0⟩) (c0 : PySem.W.codeIn K cd0 "word_end" = true) (k0 : PySem.W.keepIn K (.ref f0) = true)
    (a1 : PySem.W.nsIn K mainGlobals "read_argument" = some (some (.ref f1))) (l1 : K.lookup f1 = some ⟨oc1, od1, .func (PySem.W.fnOf "read_argument" "read_argument" (defArgs s1) (defBody s1) (defScope s1) .none kV1 dc1 pm1 an1 cd1 ct1), sl1⟩) (c1 : PySem.W.codeIn K cd1 "read_argument" = true) (k1 : PySem.W.keepIn K (.ref f1) = true)
    (a2 : PySem.W.nsIn K mainGlobals "read_at" = some (some (.ref f2))) (l2 : K.lookup f2 = some ⟨oc2, od2, .func (PySem.W.fnOf "read_at" "read_at" (defArgs s2) (defBody s2) (defScope s2) .none kV2 dc2 pm2 an2 cd2 ct2), sl2⟩) (c2 : PySem.W.codeIn K cd2 "read_at" = true) (k2 : PySem.W.keepIn K (.ref f2) = true)
    (a3 : PySem.W.nsIn K mainGlobals "read_question" = some (some (.ref f3))) (l3 : K.lookup f3 = some ⟨oc3, od3, .func (PySem.W.fnOf "read_question" "read_question" (defArgs s3) (defBody s3) (defScope s3) .none kV3 dc3 pm3 an3 cd3 ct3), sl3⟩) (c3 : PySem.W.codeIn K cd3 "read_question" = true) (k3 : PySem.W.keepIn K (.ref f3) = true)
    (a4 : PySem.W.nsIn K mainGlobals "_law_tape" = some (some (.ref f4))) (l4 : K.lookup f4 = some ⟨oc4, od4, .func (PySem.W.fnOf "_law_tape" "_law_tape" (defArgs s4) (defBody s4) (defScope s4) .none kV4 dc4 pm4 an4 cd4 ct4), sl4⟩) (c4 : PySem.W.codeIn K cd4 "_law_tape" = true) (k4 : PySem.W.keepIn K (.ref f4) = true)
    (a5 : PySem.W.nsIn K mainGlobals "_law_draw" = some (some (.ref f5))) (l5 : K.lookup f5 = some ⟨oc5, od5, .func (PySem.W.fnOf "_law_draw" "_law_draw" (defArgs s5) (defBody s5) (defScope s5) .none kV5 dc5 pm5 an5 cd5 ct5), sl5⟩) (c5 : PySem.W.codeIn K cd5 "_law_draw" = true) (k5 : PySem.W.keepIn K (.ref f5) = true)
    (a6 : PySem.W.nsIn K mainGlobals "_law_equal" = some (some (.ref f6))) (l6 : K.lookup f6 = some ⟨oc6, od6, .func (PySem.W.fnOf "_law_equal" "_law_equal" (defArgs s6) (defBody s6) (defScope s6) .none kV6 dc6 pm6 an6 cd6 ct6), sl6⟩) (c6 : PySem.W.codeIn K cd6 "_law_equal" = true) (k6 : PySem.W.keepIn K (.ref f6) = true)
    (a7 : PySem.W.nsIn K mainGlobals "_law_take" = some (some (.ref f7))) (l7 : K.lookup f7 = some ⟨oc7, od7, .func (PySem.W.fnOf "_law_take" "_law_take" (defArgs s7) (defBody s7) (defScope s7) .none kV7 dc7 pm7 an7 cd7 ct7), sl7⟩) (c7 : PySem.W.codeIn K cd7 "_law_take" = true) (k7 : PySem.W.keepIn K (.ref f7) = true)
    (a8 : PySem.W.nsIn K mainGlobals "_law_names" = some (some (.ref f8))) (l8 : K.lookup f8 = some ⟨oc8, od8, .func (PySem.W.fnOf "_law_names" "_law_names" (defArgs s8) (defBody s8) (defScope s8) .none kV8 dc8 pm8 an8 cd8 ct8), sl8⟩) (c8 : PySem.W.codeIn K cd8 "_law_names" = true) (k8 : PySem.W.keepIn K (.ref f8) = true)
    (a9 : PySem.W.nsIn K mainGlobals "_law_leaf" = some (some (.ref f9))) (l9 : K.lookup f9 = some ⟨oc9, od9, .func (PySem.W.fnOf "_law_leaf" "_law_leaf" (defArgs s9) (defBody s9) (defScope s9) .none kV9 dc9 pm9 an9 cd9 ct9), sl9⟩) (c9 : PySem.W.codeIn K cd9 "_law_leaf" = true) (k9 : PySem.W.keepIn K (.ref f9) = true)
    (a10 : PySem.W.nsIn K mainGlobals "_law_tree" = some (some (.ref f10))) (l10 : K.lookup f10 = some ⟨oc10, od10, .func (PySem.W.fnOf "_law_tree" "_law_tree" (defArgs s10) (defBody s10) (defScope s10) .none kV10 dc10 pm10 an10 cd10 ct10), sl10⟩) (c10 : PySem.W.codeIn K cd10 "_law_tree" = true) (k10 : PySem.W.keepIn K (.ref f10) = true)
    (a11 : PySem.W.nsIn K mainGlobals "_law_text" = some (some (.ref f11))) (l11 : K.lookup f11 = some ⟨oc11, od11, .func (PySem.W.fnOf "_law_text" "_law_text" (defArgs s11) (defBody s11) (defScope s11) .none kV11 dc11 pm11 an11 cd11 ct11), sl11⟩) (c11 : PySem.W.codeIn K cd11 "_law_text" = true) (k11 : PySem.W.keepIn K (.ref f11) = true)
    (a12 : PySem.W.nsIn K mainGlobals "_law_split" = some (some (.ref f12))) (l12 : K.lookup f12 = some ⟨oc12, od12, .func (PySem.W.fnOf "_law_split" "_law_split" (defArgs s12) (defBody s12) (defScope s12) .none kV12 dc12 pm12 an12 cd12 ct12), sl12⟩) (c12 : PySem.W.codeIn K cd12 "_law_split" = true) (k12 : PySem.W.keepIn K (.ref f12) = true)
    (a13 : PySem.W.nsIn K mainGlobals "_law_numbered" = some (some (.ref f13))) (l13 : K.lookup f13 = some ⟨oc13, od13, .func (PySem.W.fnOf "_law_numbered" "_law_numbered" (defArgs s13) (defBody s13) (defScope s13) .none kV13 dc13 pm13 an13 cd13 ct13), sl13⟩) (c13 : PySem.W.codeIn K cd13 "_law_numbered" = true) (k13 : PySem.W.keepIn K (.ref f13) = true)
    (a14 : PySem.W.nsIn K mainGlobals "_law_read" = some (some (.ref f14))) (l14 : K.lookup f14 = some ⟨oc14, od14, .func (PySem.W.fnOf "_law_read" "_law_read" (defArgs s14) (defBody s14) (defScope s14) .none kV14 dc14 pm14 an14 cd14 ct14), sl14⟩) (c14 : PySem.W.codeIn K cd14 "_law_read" = true) (k14 : PySem.W.keepIn K (.ref f14) = true)
    (a15 : PySem.W.nsIn K mainGlobals "_law_changed" = some (some (.ref f15))) (l15 : K.lookup f15 = some ⟨oc15, od15, .func (PySem.W.fnOf "_law_changed" "_law_changed" (defArgs s15) (defBody s15) (defScope s15) .none kV15 dc15 pm15 an15 cd15 ct15), sl15⟩) (c15 : PySem.W.codeIn K cd15 "_law_changed" = true) (k15 : PySem.W.keepIn K (.ref f15) = true)
    (a16 : PySem.W.nsIn K mainGlobals "law" = some (some (.ref f16))) (l16 : K.lookup f16 = some ⟨oc16, od16, .func (PySem.W.fnOf "law" "law" (defArgs s16) (defBody s16) (defScope s16) .none kV16 dc16 pm16 an16 cd16 ct16), sl16⟩) (c16 : PySem.W.codeIn K cd16 "law" = true) (k16 : PySem.W.keepIn K (.ref f16) = true)
    (b_bool : PySem.W.nsIn K mainGlobals "bool" = some none)
    (b_int : PySem.W.nsIn K mainGlobals "int" = some none)
    (b_isinstance : PySem.W.nsIn K mainGlobals "isinstance" = some none)
    (b_len : PySem.W.nsIn K mainGlobals "len" = some none)
    (b_list : PySem.W.nsIn K mainGlobals "list" = some none)
    (b_range : PySem.W.nsIn K mainGlobals "range" = some none)
    (b_str : PySem.W.nsIn K mainGlobals "str" = some none)
    (b_tuple : PySem.W.nsIn K mainGlobals "tuple" = some none)
    {tk_LETTERS : Tok} (g_LETTERS : PySem.W.nsIn K mainGlobals "LETTERS" = some (some (.str "abcdefghijklmnopqrstuvwxyz" tk_LETTERS)))
    {ad_DIGITS : Addr} {es_DIGITS : Array DictEntry} {en_DIGITS : Nat} (g_DIGITS : PySem.W.nsIn K mainGlobals "DIGITS" = some (some (.ref ad_DIGITS))) (l_DIGITS : K.lookup ad_DIGITS = some ⟨.type "dict", none, .dict es_DIGITS en_DIGITS, #[]⟩)
    (y_DIGITS : PySem.W.KeysLit w.params es_DIGITS.toList) (z_DIGITS : es_DIGITS.toList.map keyT = tb_DIGITS.map (fun p => some p.1)) (x_DIGITS : (ad_DIGITS == sysModules) = false)
    {t_DIGITS0 : Tok}
    {t_DIGITS1 : Tok}
    {t_DIGITS2 : Tok}
    (v_DIGITS : es_DIGITS.toList.map (·.val) = [.str "12" t_DIGITS0, .str "123" t_DIGITS1, .str "23" t_DIGITS2])
    {ad_SHAPES : Addr} {es_SHAPES : Array DictEntry} {en_SHAPES : Nat} (g_SHAPES : PySem.W.nsIn K mainGlobals "SHAPES" = some (some (.ref ad_SHAPES))) (l_SHAPES : K.lookup ad_SHAPES = some ⟨.type "dict", none, .dict es_SHAPES en_SHAPES, #[]⟩)
    (y_SHAPES : PySem.W.KeysLit w.params es_SHAPES.toList) (z_SHAPES : es_SHAPES.toList.map keyT = tb_SHAPES.map (fun p => some p.1)) (x_SHAPES : (ad_SHAPES == sysModules) = false)
    {p_SHAPES0 : Addr} {q_SHAPES0 : Option Addr} {i_SHAPES0 : Array Value} {m_SHAPES0 : Nat} {s_SHAPES0 : Array (Option Value)} (u_SHAPES0 : K.lookup p_SHAPES0 = some ⟨.type "tuple", q_SHAPES0, .seq i_SHAPES0 m_SHAPES0, s_SHAPES0⟩) (h_SHAPES0 : i_SHAPES0.size ≤ sizeLine) (r_SHAPES0 : Vals [V.str "name"] i_SHAPES0.toList)
    {p_SHAPES1 : Addr} {q_SHAPES1 : Option Addr} {i_SHAPES1 : Array Value} {m_SHAPES1 : Nat} {s_SHAPES1 : Array (Option Value)} (u_SHAPES1 : K.lookup p_SHAPES1 = some ⟨.type "tuple", q_SHAPES1, .seq i_SHAPES1 m_SHAPES1, s_SHAPES1⟩) (h_SHAPES1 : i_SHAPES1.size ≤ sizeLine) (r_SHAPES1 : Vals [V.str "question", V.str "question"] i_SHAPES1.toList)
    {p_SHAPES2 : Addr} {q_SHAPES2 : Option Addr} {i_SHAPES2 : Array Value} {m_SHAPES2 : Nat} {s_SHAPES2 : Array (Option Value)} (u_SHAPES2 : K.lookup p_SHAPES2 = some ⟨.type "tuple", q_SHAPES2, .seq i_SHAPES2 m_SHAPES2, s_SHAPES2⟩) (h_SHAPES2 : i_SHAPES2.size ≤ sizeLine) (r_SHAPES2 : Vals [V.str "question", V.str "question"] i_SHAPES2.toList)
    {p_SHAPES3 : Addr} {q_SHAPES3 : Option Addr} {i_SHAPES3 : Array Value} {m_SHAPES3 : Nat} {s_SHAPES3 : Array (Option Value)} (u_SHAPES3 : K.lookup p_SHAPES3 = some ⟨.type "tuple", q_SHAPES3, .seq i_SHAPES3 m_SHAPES3, s_SHAPES3⟩) (h_SHAPES3 : i_SHAPES3.size ≤ sizeLine) (r_SHAPES3 : Vals [V.str "question", V.str "question", V.str "question"] i_SHAPES3.toList)
    {p_SHAPES4 : Addr} {q_SHAPES4 : Option Addr} {i_SHAPES4 : Array Value} {m_SHAPES4 : Nat} {s_SHAPES4 : Array (Option Value)} (u_SHAPES4 : K.lookup p_SHAPES4 = some ⟨.type "tuple", q_SHAPES4, .seq i_SHAPES4 m_SHAPES4, s_SHAPES4⟩) (h_SHAPES4 : i_SHAPES4.size ≤ sizeLine) (r_SHAPES4 : Vals [V.str "question"] i_SHAPES4.toList)
    {p_SHAPES5 : Addr} {q_SHAPES5 : Option Addr} {i_SHAPES5 : Array Value} {m_SHAPES5 : Nat} {s_SHAPES5 : Array (Option Value)} (u_SHAPES5 : K.lookup p_SHAPES5 = some ⟨.type "tuple", q_SHAPES5, .seq i_SHAPES5 m_SHAPES5, s_SHAPES5⟩) (h_SHAPES5 : i_SHAPES5.size ≤ sizeLine) (r_SHAPES5 : Vals [V.str "question"] i_SHAPES5.toList)
    {p_SHAPES6 : Addr} {q_SHAPES6 : Option Addr} {i_SHAPES6 : Array Value} {m_SHAPES6 : Nat} {s_SHAPES6 : Array (Option Value)} (u_SHAPES6 : K.lookup p_SHAPES6 = some ⟨.type "tuple", q_SHAPES6, .seq i_SHAPES6 m_SHAPES6, s_SHAPES6⟩) (h_SHAPES6 : i_SHAPES6.size ≤ sizeLine) (r_SHAPES6 : Vals [V.str "question"] i_SHAPES6.toList)
    {p_SHAPES7 : Addr} {q_SHAPES7 : Option Addr} {i_SHAPES7 : Array Value} {m_SHAPES7 : Nat} {s_SHAPES7 : Array (Option Value)} (u_SHAPES7 : K.lookup p_SHAPES7 = some ⟨.type "tuple", q_SHAPES7, .seq i_SHAPES7 m_SHAPES7, s_SHAPES7⟩) (h_SHAPES7 : i_SHAPES7.size ≤ sizeLine) (r_SHAPES7 : Vals [V.str "two", V.str "question"] i_SHAPES7.toList)
    {p_SHAPES8 : Addr} {q_SHAPES8 : Option Addr} {i_SHAPES8 : Array Value} {m_SHAPES8 : Nat} {s_SHAPES8 : Array (Option Value)} (u_SHAPES8 : K.lookup p_SHAPES8 = some ⟨.type "tuple", q_SHAPES8, .seq i_SHAPES8 m_SHAPES8, s_SHAPES8⟩) (h_SHAPES8 : i_SHAPES8.size ≤ sizeLine) (r_SHAPES8 : Vals [V.str "two", V.str "question"] i_SHAPES8.toList)
    {p_SHAPES9 : Addr} {q_SHAPES9 : Option Addr} {i_SHAPES9 : Array Value} {m_SHAPES9 : Nat} {s_SHAPES9 : Array (Option Value)} (u_SHAPES9 : K.lookup p_SHAPES9 = some ⟨.type "tuple", q_SHAPES9, .seq i_SHAPES9 m_SHAPES9, s_SHAPES9⟩) (h_SHAPES9 : i_SHAPES9.size ≤ sizeLine) (r_SHAPES9 : Vals [V.str "three", V.str "question"] i_SHAPES9.toList)
    {p_SHAPES10 : Addr} {q_SHAPES10 : Option Addr} {i_SHAPES10 : Array Value} {m_SHAPES10 : Nat} {s_SHAPES10 : Array (Option Value)} (u_SHAPES10 : K.lookup p_SHAPES10 = some ⟨.type "tuple", q_SHAPES10, .seq i_SHAPES10 m_SHAPES10, s_SHAPES10⟩) (h_SHAPES10 : i_SHAPES10.size ≤ sizeLine) (r_SHAPES10 : Vals [V.str "circle", V.str "rest", V.str "question"] i_SHAPES10.toList)
    {p_SHAPES11 : Addr} {q_SHAPES11 : Option Addr} {i_SHAPES11 : Array Value} {m_SHAPES11 : Nat} {s_SHAPES11 : Array (Option Value)} (u_SHAPES11 : K.lookup p_SHAPES11 = some ⟨.type "tuple", q_SHAPES11, .seq i_SHAPES11 m_SHAPES11, s_SHAPES11⟩) (h_SHAPES11 : i_SHAPES11.size ≤ sizeLine) (r_SHAPES11 : Vals [V.str "question", V.str "question"] i_SHAPES11.toList)
    {p_SHAPES12 : Addr} {q_SHAPES12 : Option Addr} {i_SHAPES12 : Array Value} {m_SHAPES12 : Nat} {s_SHAPES12 : Array (Option Value)} (u_SHAPES12 : K.lookup p_SHAPES12 = some ⟨.type "tuple", q_SHAPES12, .seq i_SHAPES12 m_SHAPES12, s_SHAPES12⟩) (h_SHAPES12 : i_SHAPES12.size ≤ sizeLine) (r_SHAPES12 : Vals [V.str "question", V.str "question"] i_SHAPES12.toList)
    (v_SHAPES : es_SHAPES.toList.map (·.val) = [.ref p_SHAPES0, .ref p_SHAPES1, .ref p_SHAPES2, .ref p_SHAPES3, .ref p_SHAPES4, .ref p_SHAPES5, .ref p_SHAPES6, .ref p_SHAPES7, .ref p_SHAPES8, .ref p_SHAPES9, .ref p_SHAPES10, .ref p_SHAPES11, .ref p_SHAPES12])
    : ∃ fd : FuncData, (∀ (s : Shared) (v : Value), BindsTo s fd ⟨[v], []⟩ [("_law_script", v)]) ∧ ∀ base : Heap, K.In base → base.Ns mainGlobals mg → FnOk l.prog w K mg base (L2.CX l.prog w) (2 * DEEP) fz fd ["_law_script"] (spD K (fun _ => 0) 1 (call DEEP 16)) := by
  have e := hfa.symm.trans (PySem.W.mg_of X G a16)
  cases e
  have F0 := fun_mk (st := s0) l0 c0 k0
  have F1 := fun_mk (st := s1) l1 c1 k1
  have F2 := fun_mk (st := s2) l2 c2 k2
  have F3 := fun_mk (st := s3) l3 c3 k3
  have F4 := fun_mk (st := s4) l4 c4 k4
  have F5 := fun_mk (st := s5) l5 c5 k5
  have F6 := fun_mk (st := s6) l6 c6 k6
  have F7 := fun_mk (st := s7) l7 c7 k7
  have F8 := fun_mk (st := s8) l8 c8 k8
  have F9 := fun_mk (st := s9) l9 c9 k9
  have F10 := fun_mk (st := s10) l10 c10 k10
  have F11 := fun_mk (st := s11) l11 c11 k11
  have F12 := fun_mk (st := s12) l12 c12 k12
  have F13 := fun_mk (st := s13) l13 c13 k13
  have F14 := fun_mk (st := s14) l14 c14 k14
  have F15 := fun_mk (st := s15) l15 c15 k15
  have F16 := fun_mk (st := s16) l16 c16 k16
  have B0 := F0.binds (ps := P0) fun _ _ _ _ _ _ us hl => match us, hl with | [_, _], _ => rfl
  have B1 := F1.binds (ps := P1) fun _ _ _ _ _ _ us hl => match us, hl with | [_, _, _, _, _], _ => rfl
  have B2 := F2.binds (ps := P2) fun _ _ _ _ _ _ us hl => match us, hl with | [_, _, _], _ => rfl
  have B3 := F3.binds (ps := P3) fun _ _ _ _ _ _ us hl => match us, hl with | [_, _], _ => rfl
  have B4 := F4.binds (ps := P4) fun _ _ _ _ _ _ us hl => match us, hl with | [_], _ => rfl
  have B5 := F5.binds (ps := P5) fun _ _ _ _ _ _ us hl => match us, hl with | [_, _, _], _ => rfl
  have B6 := F6.binds (ps := P6) fun _ _ _ _ _ _ us hl => match us, hl with | [_, _], _ => rfl
  have B7 := F7.binds (ps := P7) fun _ _ _ _ _ _ us hl => match us, hl with | [_, _], _ => rfl
  have B8 := F8.binds (ps := P8) fun _ _ _ _ _ _ us hl => match us, hl with | [_], _ => rfl
  have B9 := F9.binds (ps := P9) fun _ _ _ _ _ _ us hl => match us, hl with | [_, _], _ => rfl
  have B10 := F10.binds (ps := P10) fun _ _ _ _ _ _ us hl => match us, hl with | [_, _, _], _ => rfl
  have B11 := F11.binds (ps := P11) fun _ _ _ _ _ _ us hl => match us, hl with | [_], _ => rfl
  have B12 := F12.binds (ps := P12) fun _ _ _ _ _ _ us hl => match us, hl with | [_], _ => rfl
  have B13 := F13.binds (ps := P13) fun _ _ _ _ _ _ us hl => match us, hl with | [_, _], _ => rfl
  have B14 := F14.binds (ps := P14) fun _ _ _ _ _ _ us hl => match us, hl with | [_, _], _ => rfl
  have B15 := F15.binds (ps := P15) fun _ _ _ _ _ _ us hl => match us, hl with | [_, _, _], _ => rfl
  have B16 := F16.binds (ps := P16) fun _ _ _ _ _ _ us hl => match us, hl with | [_], _ => rfl
  let fa : Nat → Addr := fun k => [f0, f1, f2, f3, f4, f5, f6, f7, f8, f9, f10, f11, f12, f13, f14, f15, fz].getD k f0
  let fd : Nat → FuncData := fun k => [PySem.W.fnOf "word_end" "word_end" (defArgs s0) (defBody s0) (defScope s0) .none kV0 dc0 pm0 an0 cd0 ct0, PySem.W.fnOf "read_argument" "read_argument" (defArgs s1) (defBody s1) (defScope s1) .none kV1 dc1 pm1 an1 cd1 ct1, PySem.W.fnOf "read_at" "read_at" (defArgs s2) (defBody s2) (defScope s2) .none kV2 dc2 pm2 an2 cd2 ct2, PySem.W.fnOf "read_question" "read_question" (defArgs s3) (defBody s3) (defScope s3) .none kV3 dc3 pm3 an3 cd3 ct3, PySem.W.fnOf "_law_tape" "_law_tape" (defArgs s4) (defBody s4) (defScope s4) .none kV4 dc4 pm4 an4 cd4 ct4, PySem.W.fnOf "_law_draw" "_law_draw" (defArgs s5) (defBody s5) (defScope s5) .none kV5 dc5 pm5 an5 cd5 ct5, PySem.W.fnOf "_law_equal" "_law_equal" (defArgs s6) (defBody s6) (defScope s6) .none kV6 dc6 pm6 an6 cd6 ct6, PySem.W.fnOf "_law_take" "_law_take" (defArgs s7) (defBody s7) (defScope s7) .none kV7 dc7 pm7 an7 cd7 ct7, PySem.W.fnOf "_law_names" "_law_names" (defArgs s8) (defBody s8) (defScope s8) .none kV8 dc8 pm8 an8 cd8 ct8, PySem.W.fnOf "_law_leaf" "_law_leaf" (defArgs s9) (defBody s9) (defScope s9) .none kV9 dc9 pm9 an9 cd9 ct9, PySem.W.fnOf "_law_tree" "_law_tree" (defArgs s10) (defBody s10) (defScope s10) .none kV10 dc10 pm10 an10 cd10 ct10, PySem.W.fnOf "_law_text" "_law_text" (defArgs s11) (defBody s11) (defScope s11) .none kV11 dc11 pm11 an11 cd11 ct11, PySem.W.fnOf "_law_split" "_law_split" (defArgs s12) (defBody s12) (defScope s12) .none kV12 dc12 pm12 an12 cd12 ct12, PySem.W.fnOf "_law_numbered" "_law_numbered" (defArgs s13) (defBody s13) (defScope s13) .none kV13 dc13 pm13 an13 cd13 ct13, PySem.W.fnOf "_law_read" "_law_read" (defArgs s14) (defBody s14) (defScope s14) .none kV14 dc14 pm14 an14 cd14 ct14, PySem.W.fnOf "_law_changed" "_law_changed" (defArgs s15) (defBody s15) (defScope s15) .none kV15 dc15 pm15 an15 cd15 ct15, PySem.W.fnOf "law" "law" (defArgs s16) (defBody s16) (defScope s16) .none kV16 dc16 pm16 an16 cd16 ct16].getD k (PySem.W.fnOf "word_end" "word_end" (defArgs s0) (defBody s0) (defScope s0) .none kV0 dc0 pm0 an0 cd0 ct0)
  let ta : Nat → Addr := fun k => [ad_DIGITS, ad_SHAPES].getD k 0
  have VT_DIGITS : VTab K (fun _ => 0) (tb_DIGITS.map (·.2)) (es_DIGITS.toList.map (·.val)) := by
    rw [v_DIGITS]
    exact ⟨_, _, rfl, ⟨V.str "12", ⟨_, rfl⟩, fun F H => rfl⟩, ⟨_, _, rfl, ⟨V.str "123", ⟨_, rfl⟩, fun F H => rfl⟩, ⟨_, _, rfl, ⟨V.str "23", ⟨_, rfl⟩, fun F H => rfl⟩, rfl⟩⟩⟩
  have VT_SHAPES : VTab K (fun _ => 0) (tb_SHAPES.map (·.2)) (es_SHAPES.toList.map (·.val)) := by
    rw [v_SHAPES]
    exact ⟨_, _, rfl, ⟨.ref p_SHAPES0, rfl, fun F H => ⟨_, _, rfl, .inr ⟨_, _, _, u_SHAPES0, rfl, rfl, h_SHAPES0, r_SHAPES0⟩, ⟨_, _, rfl, rfl, rfl⟩⟩⟩, ⟨_, _, rfl, ⟨.ref p_SHAPES1, rfl, fun F H => ⟨_, _, rfl, .inr ⟨_, _, _, u_SHAPES1, rfl, rfl, h_SHAPES1, r_SHAPES1⟩, ⟨_, _, rfl, rfl, ⟨_, _, rfl, rfl, rfl⟩⟩⟩⟩, ⟨_, _, rfl, ⟨.ref p_SHAPES2, rfl, fun F H => ⟨_, _, rfl, .inr ⟨_, _, _, u_SHAPES2, rfl, rfl, h_SHAPES2, r_SHAPES2⟩, ⟨_, _, rfl, rfl, ⟨_, _, rfl, rfl, rfl⟩⟩⟩⟩, ⟨_, _, rfl, ⟨.ref p_SHAPES3, rfl, fun F H => ⟨_, _, rfl, .inr ⟨_, _, _, u_SHAPES3, rfl, rfl, h_SHAPES3, r_SHAPES3⟩, ⟨_, _, rfl, rfl, ⟨_, _, rfl, rfl, ⟨_, _, rfl, rfl, rfl⟩⟩⟩⟩⟩, ⟨_, _, rfl, ⟨.ref p_SHAPES4, rfl, fun F H => ⟨_, _, rfl, .inr ⟨_, _, _, u_SHAPES4, rfl, rfl, h_SHAPES4, r_SHAPES4⟩, ⟨_, _, rfl, rfl, rfl⟩⟩⟩, ⟨_, _, rfl, ⟨.ref p_SHAPES5, rfl, fun F H => ⟨_, _, rfl, .inr ⟨_, _, _, u_SHAPES5, rfl, rfl, h_SHAPES5, r_SHAPES5⟩, ⟨_, _, rfl, rfl, rfl⟩⟩⟩, ⟨_, _, rfl, ⟨.ref p_SHAPES6, rfl, fun F H => ⟨_, _, rfl, .inr ⟨_, _, _, u_SHAPES6, rfl, rfl, h_SHAPES6, r_SHAPES6⟩, ⟨_, _, rfl, rfl, rfl⟩⟩⟩, ⟨_, _, rfl, ⟨.ref p_SHAPES7, rfl, fun F H => ⟨_, _, rfl, .inr ⟨_, _, _, u_SHAPES7, rfl, rfl, h_SHAPES7, r_SHAPES7⟩, ⟨_, _, rfl, rfl, ⟨_, _, rfl, rfl, rfl⟩⟩⟩⟩, ⟨_, _, rfl, ⟨.ref p_SHAPES8, rfl, fun F H => ⟨_, _, rfl, .inr ⟨_, _, _, u_SHAPES8, rfl, rfl, h_SHAPES8, r_SHAPES8⟩, ⟨_, _, rfl, rfl, ⟨_, _, rfl, rfl, rfl⟩⟩⟩⟩, ⟨_, _, rfl, ⟨.ref p_SHAPES9, rfl, fun F H => ⟨_, _, rfl, .inr ⟨_, _, _, u_SHAPES9, rfl, rfl, h_SHAPES9, r_SHAPES9⟩, ⟨_, _, rfl, rfl, ⟨_, _, rfl, rfl, rfl⟩⟩⟩⟩, ⟨_, _, rfl, ⟨.ref p_SHAPES10, rfl, fun F H => ⟨_, _, rfl, .inr ⟨_, _, _, u_SHAPES10, rfl, rfl, h_SHAPES10, r_SHAPES10⟩, ⟨_, _, rfl, rfl, ⟨_, _, rfl, rfl, ⟨_, _, rfl, rfl, rfl⟩⟩⟩⟩⟩, ⟨_, _, rfl, ⟨.ref p_SHAPES11, rfl, fun F H => ⟨_, _, rfl, .inr ⟨_, _, _, u_SHAPES11, rfl, rfl, h_SHAPES11, r_SHAPES11⟩, ⟨_, _, rfl, rfl, ⟨_, _, rfl, rfl, rfl⟩⟩⟩⟩, ⟨_, _, rfl, ⟨.ref p_SHAPES12, rfl, fun F H => ⟨_, _, rfl, .inr ⟨_, _, _, u_SHAPES12, rfl, rfl, h_SHAPES12, r_SHAPES12⟩, ⟨_, _, rfl, rfl, ⟨_, _, rfl, rfl, rfl⟩⟩⟩⟩, rfl⟩⟩⟩⟩⟩⟩⟩⟩⟩⟩⟩⟩⟩
  have T : Txt K mg fa fd ta w.params (fun _ => 0) := {
    f0 := F0, m0 := PySem.W.mg_of X G a0, b0 := B0,
    f1 := F1, m1 := PySem.W.mg_of X G a1, b1 := B1,
    f2 := F2, m2 := PySem.W.mg_of X G a2, b2 := B2,
    f3 := F3, m3 := PySem.W.mg_of X G a3, b3 := B3,
    f4 := F4, m4 := PySem.W.mg_of X G a4, b4 := B4,
    f5 := F5, m5 := PySem.W.mg_of X G a5, b5 := B5,
    f6 := F6, m6 := PySem.W.mg_of X G a6, b6 := B6,
    f7 := F7, m7 := PySem.W.mg_of X G a7, b7 := B7,
    f8 := F8, m8 := PySem.W.mg_of X G a8, b8 := B8,
    f9 := F9, m9 := PySem.W.mg_of X G a9, b9 := B9,
    f10 := F10, m10 := PySem.W.mg_of X G a10, b10 := B10,
    f11 := F11, m11 := PySem.W.mg_of X G a11, b11 := B11,
    f12 := F12, m12 := PySem.W.mg_of X G a12, b12 := B12,
    f13 := F13, m13 := PySem.W.mg_of X G a13, b13 := B13,
    f14 := F14, m14 := PySem.W.mg_of X G a14, b14 := B14,
    f15 := F15, m15 := PySem.W.mg_of X G a15, b15 := B15,
    f16 := F16, m16 := PySem.W.mg_of X G a16, b16 := B16,
    n_bool := PySem.W.mg_none_of X G b_bool, n_int := PySem.W.mg_none_of X G b_int, n_isinstance := PySem.W.mg_none_of X G b_isinstance, n_len := PySem.W.mg_none_of X G b_len, n_list := PySem.W.mg_none_of X G b_list, n_range := PySem.W.mg_none_of X G b_range, n_str := PySem.W.mg_none_of X G b_str, n_tuple := PySem.W.mg_none_of X G b_tuple, c_LETTERS := ⟨_, PySem.W.mg_of X G g_LETTERS⟩, c_DIGITS := PySem.W.mg_of X G g_DIGITS, t_DIGITS := ⟨⟨_, _, _, l_DIGITS, y_DIGITS, z_DIGITS, rfl, VT_DIGITS⟩, x_DIGITS⟩, c_SHAPES := PySem.W.mg_of X G g_SHAPES, t_SHAPES := ⟨⟨_, _, _, l_SHAPES, y_SHAPES, z_SHAPES, rfl, VT_SHAPES⟩, x_SHAPES⟩ }
  refine ⟨fd 16, fun s v => .of_eq rfl, fun base _ _ => ?_⟩
  have Z := all_ok (P := l.prog) (w := w) (base := base) (cl := fun _ => 0) T DEEP
  exact Z.2.2.2.2.2.2.2.2.2.2.2.2.2.2.2.2
theorem walk (LT : ∀ ns : List Int, ns.length ≤ 63 → ∃ rs, call DEEP 16 [.val (.lsr (ns.map .int))] = some (.ok (.val (.bl true)), rs)) {l : PySem.W.OpenLaw} {q : Program} {loose : List Str} {XP : (Str → Option Value) → Heap → Prop} {YP : World → Heap → Prop} {d : DefRec} {K : Params → PySem.W.Frag} (hn : l.most = some 63) (hdf : d.params.defaults = [])
    (hY : ∀ (w : World) (h : Heap), YP w h → (K w.params).In h)
    (F : ∀ (w : World) (mg : Str → Option Value) (fa : Addr) (h : Heap), (K w.params).In h → h.Ns mainGlobals mg → mg d.name = some (.ref fa) →
      ∃ fd : FuncData, (∀ (s : Shared) (u : Value), BindsTo s fd ⟨[u], []⟩ [("_law_script", u)]) ∧ ∀ base : Heap, (K w.params).In base → base.Ns mainGlobals mg → FnOk l.prog w (K w.params) mg base (L2.CX l.prog w) (2 * DEEP) fa fd ["_law_script"] (spD (K w.params) (fun _ => 0) 1 (call DEEP 16))) :
    PySem.W.WalkO q loose XP YP l.row.toRowW d [] (fun f vs => PySem.call f vs) :=
  L2.walk_of (n := 63) (k := 2 * DEEP) (x := "_law_script") (CX := fun w => L2.CX l.prog w) (sp := fun w => spD (K w.params) (fun _ => 0) 1 (call DEEP 16)) hn (by decide) hdf ⟨rfl, by decide, by decide⟩ hY F (fun _ _ a ns hl _ hS => sp_main (LT ns hl) hS) fun w H s e s' h => cx_no w H s e s' h
end My

set_option Elab.async false
set_option linter.all false
set_option maxRecDepth 100000
namespace My
open PySem L2 KR
theorem mul_r {a b : Int} (h : -(2 ^ 64) < b ∧ b < 2 ^ 64) : gmul (.int a) (.int b) = some (.int (a * b)) := if_pos (.inr (.inr h))
theorem div_lit {a b : Int} (h : 0 < b) (h2 : b < 2 ^ 64) : gdiv (.int a) (.int b) = some (.int (a / b)) := gdiv_sm h (by unfold KR.sm; omega)
structure Tp (t : List Int) : Prop where
  p : ∀ z ∈ t, 0 ≤ z ∧ z < 2147483629
theorem Tp.add {t : List Int} (h : Tp t) {z : Int} (h0 : 0 ≤ z) (h1 : z < 2147483629) : Tp (t ++ [z]) := ⟨fun y hy => by
  rcases List.mem_append.mp hy with q | q
  · exact h.p y q
  · rw [List.mem_singleton] at q
    rw [q]
    exact ⟨h0, h1⟩⟩
abbrev ints' (t : List Int) : List D := t.map .int
abbrev B40 : S := (sif (tst (KR.bin ggt (getv 3) (KR.ret (.int 0)))) (seq (sdo (apnd 1 (KR.bin gmod (cal (f1 gint) (acons (getv 3) (KR.ret []))) (KR.ret (.int 1000)))))
  (sset 3 (val (KR.bin gdiv (getv 3) (KR.ret (.int 1000)))))) skip)
theorem for40 {s : Option RV} : ∀ (xs : List D) (t : List Int) (z : Int) (c k f : Option RV), Tp t → 0 ≤ z → t.length + xs.length ≤ 100000 → ∃ (t' : List Int) (z' : Int) (k' : Option RV), Tp t' ∧ t'.length ≤ t.length + xs.length ∧
    forL (gnm 4) B40 xs [] [s, some (.olst (ints' t)), c, some (KR.I z), k, f] = some (.ok .nx, [s, some (.olst (ints' t')), c, some (KR.I z'), k', f])
  | [], t, z, c, k, f, h, _, _ => ⟨t, z, k, h, Nat.le_refl _, rfl⟩
  | x :: xs, t, z, c, k, f, h, h0, hl => by
    have hl' : t.length + (xs.length + 1) ≤ 100000 := hl
    by_cases q : 0 < z
    · have e2 := div_lit (a := z) (b := 1000) (by decide) (by decide)
      have e3 : gmod (.int z) (.int 1000) = some (.int (z % 1000)) := gmod_pos (by decide)
      obtain ⟨t', z', k', h1, h2, h3⟩ := for40 (s := s) xs (t ++ [z % 1000]) (z / 1000) c (some (.val x)) f (h.add (by omega) (by omega)) (by omega) (by rw [List.length_append, List.length_singleton]; omega)
      refine ⟨t', z', k', h1, by rw [List.length_append, List.length_singleton] at h2; show _ ≤ t.length + (xs.length + 1); omega, ?_⟩
      rw [← h3]
      refine forL_nx (ρ1 := [s, some (.olst (ints' t)), c, some (KR.I z), some (.val x), f]) (by simp) ?_
      have hs : t.length < 16777216 := by omega
      simp [q, e2, e3, hs]
    · obtain ⟨t', z', k', h1, h2, h3⟩ := for40 (s := s) xs t z c (some (.val x)) f h h0 (by omega)
      refine ⟨t', z', k', h1, by show _ ≤ t.length + (xs.length + 1); omega, ?_⟩
      rw [← h3]
      refine forL_nx (ρ1 := [s, some (.olst (ints' t)), c, some (KR.I z), some (.val x), f]) (by simp) ?_
      simp [q]
abbrev Bt3 : S := (seq (sset 5 (val (KR.bin gmod (cal (f1 gint) (acons (KR.bin gadd (KR.bin gadd (KR.bin gmul (getv 3) (KR.ret (.int 48271))) (KR.bin gmul (getv 4) (KR.ret (.int 40503)))) (KR.ret (.int 11))) (KR.ret []))) (KR.ret (.int 2147483629)))))
  (sdo (apnd 1 (KR.bin gmod (cal (f1 gint) (acons (KR.bin gadd (KR.bin gmul (getv 5) (KR.ret (.int 69621))) (KR.bin gdiv (getv 5) (KR.ret (.int 65536)))) (KR.ret []))) (KR.ret (.int 2147483629))))))
theorem for3 {s : Option RV} : ∀ (xs : List Int) (t : List Int) (z : Int) (c k f : Option RV), Tp t → t.length + xs.length ≤ 100000 → ∃ (t' : List Int) (k' f' : Option RV), Tp t' ∧ t'.length ≤ t.length + xs.length ∧
    forL (gnm 4) Bt3 (ints' xs) [] [s, some (.olst (ints' t)), c, some (KR.I z), k, f] = some (.ok .nx, [s, some (.olst (ints' t')), c, some (KR.I z), k', f'])
  | [], t, z, c, k, f, h, _ => ⟨t, k, f, h, Nat.le_refl _, rfl⟩
  | x :: xs, t, z, c, k, f, h, hl => by
    have hl' : t.length + (xs.length + 1) ≤ 100000 := hl
    have m1 : ∀ a : Int, gmul (.int a) (.int 48271) = some (.int (a * 48271)) := fun a => mul_r (by decide)
    have m2 : ∀ a : Int, gmul (.int a) (.int 40503) = some (.int (a * 40503)) := fun a => mul_r (by decide)
    have m3 : ∀ a : Int, gmul (.int a) (.int 69621) = some (.int (a * 69621)) := fun a => mul_r (by decide)
    have m4 : ∀ a : Int, gdiv (.int a) (.int 65536) = some (.int (a / 65536)) := fun a => div_lit (by decide) (by decide)
    have m5 : ∀ a : Int, gmod (.int a) (.int 2147483629) = some (.int (a % 2147483629)) := fun a => gmod_pos (by decide)
    generalize hv : (z * 48271 + x * 40503 + 11) % 2147483629 = v at *
    generalize hw : (v * 69621 + v / 65536) % 2147483629 = w at *
    obtain ⟨t', k', f', h1, h2, h3⟩ := for3 (s := s) xs (t ++ [w]) z c (some (KR.I x)) (some (KR.I v)) (h.add (by omega) (by omega)) (by rw [List.length_append, List.length_singleton]; omega)
    refine ⟨t', k', f', h1, by rw [List.length_append, List.length_singleton] at h2; show _ ≤ t.length + (xs.length + 1); omega, ?_⟩
    rw [← h3]
    refine forL_nx (ρ1 := [s, some (.olst (ints' t)), c, some (KR.I z), some (KR.I x), f]) (by simp) ?_
    have hs : t.length < 16777216 := by omega
    simp [m1, m2, m3, m4, m5, hv, hw, hs]
theorem rng_ints (j : Int) : rngD 0 j = ints' ((List.range j.toNat).map fun (i : Nat) => (i : Int)) := by
  show (List.range (j - 0).toNat).map _ = ((List.range j.toNat).map _).map _
  rw [List.map_map, Int.sub_zero]
  apply List.map_congr_left
  intro i _
  show D.int (0 + (i : Int)) = D.int (i : Int)
  rw [Int.zero_add]
abbrev Btape : S := (seq (sset 3 (val (KR.bin gmul (KR.ret (.int 2)) (cal (f1 gint) (acons (getv 2) (KR.ret []))))))
  (seq (sif (tst (KR.bin glt (getv 3) (KR.ret (.int 0)))) (sset 3 (val (KR.bin gsub (una gneg (KR.ret (.int 1))) (getv 3)))) skip)
  (sif (tst (KR.bin gge (getv 3) (KR.bin gpow (KR.ret (.int 10)) (KR.ret (.int 18))))) (sfor (gnm 4) (icl rng1 (acons (KR.ret (.int 40)) (KR.ret []))) B40) (sfor (gnm 4) (icl rng1 (acons (KR.ret (.int 3)) (KR.ret []))) Bt3))))
theorem tape_for {s : Option RV} : ∀ (xs : List Int) (t : List Int) (c z k f : Option RV), Tp t → t.length + 40 * xs.length ≤ 90000 → ∃ (t' : List Int) (c' z' k' f' : Option RV), Tp t' ∧ t'.length ≤ t.length + 40 * xs.length ∧
    forL (gnm 2) Btape (ints' xs) [] [s, some (.olst (ints' t)), c, z, k, f] = some (.ok .nx, [s, some (.olst (ints' t')), c', z', k', f'])
  | [], t, c, z, k, f, h, _ => ⟨t, c, z, k, f, h, Nat.le_refl _, rfl⟩
  | x :: xs, t, c, z, k, f, h, hl => by
    have hl' : t.length + 40 * (xs.length + 1) ≤ 90000 := hl
    -- what stands in the number
    obtain ⟨v, hv0, hv⟩ : ∃ v : Int, 0 ≤ v ∧ v = if 2 * x < 0 then -1 - 2 * x else 2 * x := ⟨_, by split <;> omega, rfl⟩
    have p1 : gpow (.int 10) (.int 18) = some (.int 1000000000000000000) := by
      unfold gpow
      dsimp only
      rw [if_pos (by decide)]
      rfl
    have go : ∃ (t' : List Int) (z' k' f' : Option RV), Tp t' ∧ t'.length ≤ t.length + 40 ∧ Btape [] [s, some (.olst (ints' t)), some (KR.I x), z, k, f] = some (.ok .nx, [s, some (.olst (ints' t')), some (KR.I x), z', k', f']) := by
      obtain ⟨R40, l40, r40⟩ : ∃ R : List Int, R.length = 40 ∧ rng1 [.int 40] = some (ints' R) := ⟨(List.range (40 : Int).toNat).map fun (i : Nat) => (i : Int), by rw [List.length_map, List.length_range]; rfl, by rw [rng1, if_pos (by unfold okR; decide), rng_ints]⟩
      obtain ⟨R3, l3, r3⟩ : ∃ R : List Int, R.length = 3 ∧ rng1 [.int 3] = some (ints' R) := ⟨(List.range (3 : Int).toNat).map fun (i : Nat) => (i : Int), by rw [List.length_map, List.length_range]; rfl, by rw [rng1, if_pos (by unfold okR; decide), rng_ints]⟩
      by_cases q : 1000000000000000000 ≤ v
      · obtain ⟨t', z', k', h1, h2, h3⟩ := for40 (s := s) (ints' R40) t v (some (KR.I x)) k f h hv0 (by simp; omega)
        refine ⟨t', some (KR.I z'), k', f, h1, by simp at h2; omega, ?_⟩
        by_cases q2 : 2 * x < 0
        · have e : v = -1 - 2 * x := by rw [hv, if_pos q2]
          rw [e] at q h3
          simp [q2, p1, q, r40, h3]
        · have e : v = 2 * x := by rw [hv, if_neg q2]
          rw [e] at q h3
          simp [q2, p1, q, r40, h3]
      · obtain ⟨t', k', f', h1, h2, h3⟩ := for3 (s := s) R3 t v (some (KR.I x)) k f h (by omega)
        refine ⟨t', some (KR.I v), k', f', h1, by omega, ?_⟩
        by_cases q2 : 2 * x < 0
        · have e : v = -1 - 2 * x := by rw [hv, if_pos q2]
          rw [e] at q h3 ⊢
          simp [q2, p1, q, r3, h3]
        · have e : v = 2 * x := by rw [hv, if_neg q2]
          rw [e] at q h3 ⊢
          simp [q2, p1, q, r3, h3]
    obtain ⟨t1, z1, k1, f1, a1, a2, a3⟩ := go
    obtain ⟨t', c', z', k', f', h1, h2, h3⟩ := tape_for (s := s) xs t1 (some (KR.I x)) z1 k1 f1 a1 (by omega)
    refine ⟨t', c', z', k', f', h1, by show _ ≤ t.length + 40 * (xs.length + 1); omega, ?_⟩
    rw [← h3]
    exact forL_nx (ρ1 := [s, some (.olst (ints' t)), some (KR.I x), z, k, f]) (by simp) a3
theorem tape_eq {n : Nat} {ns : List Int} (h : ns.length ≤ 63) : ∃ t : List Int, Tp t ∧ t.length ≤ 2520 ∧ call (n + 1) 4 [.val (.lsr (ints' ns))] = some (.ok (.val (.lst (ints' t))), [.val (.lsr (ints' ns))]) := by
  obtain ⟨t, c, z, k, f, h1, h2, h3⟩ := tape_for (s := some (.val (.lsr (ints' ns)))) ns [] none none none none ⟨fun z h => by cases h⟩ (by simp; omega)
  refine ⟨t, h1, by simp at h2; omega, ?_⟩
  have h3' : forL (gnm 2) Btape (ints' ns) [] [some (.val (.lsr (ints' ns))), some (.olst []), none, none, none, none] = _ := h3
  simp [call, bodies, runD, b4, lockOf, backs, h3']
abbrev TL (t : List Int) : D := .lst (ints' t)
theorem at_int {t : List Int} {i : Int} (h0 : 0 ≤ i) (h : i < t.length) : ∃ z ∈ t, atI (ints' t) i = some (.int z) := by
  refine ⟨t[i.toNat]'(by omega), List.getElem_mem _, ?_⟩
  rw [atI_int h0 (by simpa using h)]
  simp
theorem draw_eq {n : Nat} {t : List Int} {at' m : Int} (ht : Tp t) (hl : t.length ≤ 2520) (h0 : 0 ≤ at') (h1 : at' ≤ 1000000) (hm : 0 < m) : ∃ r : Int, 0 ≤ r ∧ r < m ∧ call (n + 1) 5 [.val (TL t), KR.I at', KR.I m] = some (.ok (KR.I r), [.val (TL t), KR.I at', KR.I m]) := by
  have gm : ∀ z : Int, gmod (.int z) (.int m) = some (.int (z % m)) := fun z => gmod_pos hm
  have g5 : ∀ z : Int, gmod (.int z) (.int 65521) = some (.int (z % 65521)) := fun z => gmod_pos (by decide)
  have m1 : ∀ a : Int, gmul (.int a) (.int 7919) = some (.int (a * 7919)) := fun a => mul_r (by decide)
  have m2 : ∀ a : Int, gmul (.int a) (.int 104729) = some (.int (a * 104729)) := fun a => mul_r (by decide)
  have m3 : ∀ a : Int, gmul (.int a) (.int (at' + 3)) = some (.int (a * (at' + 3))) := fun a => mul_r (by omega)
  by_cases q : at' < t.length
  · obtain ⟨z, hz, e⟩ := at_int h0 q
    refine ⟨z % m, Int.emod_nonneg _ (by omega), Int.emod_lt_of_pos _ hm, ?_⟩
    simp [call, bodies, runD, b5, lockOf, backs, q, e, gm]
  · by_cases q2 : 0 < t.length
    · have hp : (0 : Int) < t.length := by omega
      have g4 : gmod (.int at') (.int t.length) = some (.int (at' % t.length)) := gmod_pos hp
      obtain ⟨z, hz, e⟩ := at_int (t := t) (i := at' % t.length) (Int.emod_nonneg _ (by omega)) (Int.emod_lt_of_pos _ hp)
      refine ⟨((z + at') * (at' + 3) * 7919 + at' * 104729) % 65521 % m, Int.emod_nonneg _ (by omega), Int.emod_lt_of_pos _ hm, ?_⟩
      simp [call, bodies, runD, b5, lockOf, backs, q, q2, g4, e, gm, g5, m1, m2, m3]
    · have q3 : t = [] := List.eq_nil_of_length_eq_zero (by omega)
      have q4 : ¬ at' < 0 := by omega
      refine ⟨((1 + at') * (at' + 3) * 7919 + at' * 104729) % 65521 % m, Int.emod_nonneg _ (by omega), Int.emod_lt_of_pos _ hm, ?_⟩
      simp [call, bodies, runD, b5, lockOf, backs, q3, q4, gm, g5, m1, m2, m3]
abbrev St (t : List Int) (k : Int) : RV := .olst [TL t, .int k]
theorem take_eq {n : Nat} {t : List Int} {k m : Int} (ht : Tp t) (hl : t.length ≤ 2520) (h0 : 0 ≤ k) (h1 : k < 1000000) (hm : 0 < m) : ∃ r : Int, 0 ≤ r ∧ r < m ∧ call (n + 2) 7 [St t k, KR.I m] = some (.ok (KR.I r), [St t (k + 1), KR.I m]) := by
  obtain ⟨r, r0, r1, e⟩ := draw_eq (n := n) (at' := k + 1) ht hl (by omega) (by omega) hm
  refine ⟨r, r0, r1, ?_⟩
  have i1 : ixN 2 1 = some 1 := rfl
  rw [show n + 2 = (n + 1) + 1 from rfl, call]
  simp [bodies, runD, b7, lockOf, backs, takeA, putA, i1, e]

inductive Pl : Nat → D → Prop
  | int (m : Nat) (i : Int) : Pl m (.int i)
  | str (m : Nat) (x : Str) : Pl m (.str x)
  | non (m : Nat) : Pl m .non
  | tup (m : Nat) (ds : List D) : ds.length ≤ 1000 → (∀ d ∈ ds, Pl m d) → Pl (m + 1) (.tup ds)
theorem equal_int {n : Nat} {a : Int} : call (n + 1) 6 [KR.I a, KR.I a] = some (.ok (.val (.bl true)), [KR.I a, KR.I a]) := by
  simp [call, bodies, runD, b6, lockOf, backs, gisN, gisi, gnot]
theorem equal_str {n : Nat} {a : Str} : call (n + 1) 6 [.val (.str a), .val (.str a)] = some (.ok (.val (.bl true)), [.val (.str a), .val (.str a)]) := by
  simp [call, bodies, runD, b6, lockOf, backs, gisN, gisi, gnot]
theorem equal_non {n : Nat} : call (n + 1) 6 [.val .non, .val .non] = some (.ok (.val (.bl true)), [.val .non, .val .non]) := by
  simp [call, bodies, runD, b6, lockOf, backs, gisN, gisi, gnot]
theorem Pl.none {d : D} (h : Pl 0 d) : (∃ i, d = .int i) ∨ (∃ x, d = .str x) ∨ d = .non := by
  cases h with
  | int i => exact .inl ⟨_, rfl⟩
  | str x => exact .inr (.inl ⟨_, rfl⟩)
  | non => exact .inr (.inr rfl)
abbrev BE (cc : Nat → Cl) : S := (sif (tnot (tstV (frz (ocall (cc 6) 2 (cval (KR.bin gix (getv 0) (getv 2)) (cval (KR.bin gix (getv 1) (getv 2)) (KR.ret []))))))) (sret (val (KR.ret (.bl false)))) skip)
theorem equal_for {cc : Nat → Cl} {ds : List D} (h : ∀ d ∈ ds, cc 6 [.val d, .val d] = some (.ok (.val (.bl true)), [.val d, .val d])) : ∀ (xs : List Int) (u : Option RV), (∀ i ∈ xs, 0 ≤ i ∧ i < ds.length) → ∃ u' : Option RV, forL (gnm 2) (BE cc) (ints' xs) [] [some (.val (.tup ds)), some (.val (.tup ds)), u] = some (.ok .nx, [some (.val (.tup ds)), some (.val (.tup ds)), u'])
  | [], u, _ => ⟨u, rfl⟩
  | i :: xs, u, hx => by
    obtain ⟨h0, h1⟩ := hx i List.mem_cons_self
    obtain ⟨u', e⟩ := equal_for h xs (some (KR.I i)) fun j hj => hx j (List.mem_cons_of_mem _ hj)
    refine ⟨u', ?_⟩
    rw [← e]
    have g := atI_int (xs := ds) h0 h1
    have z := h _ (List.getElem_mem (l := ds) (n := i.toNat) (by omega))
    refine forL_nx (ρ1 := [some (.val (.tup ds)), some (.val (.tup ds)), some (KR.I i)]) (by simp) ?_
    simp [g, takeA, putA, z]
end My

set_option Elab.async false
set_option linter.all false
set_option maxRecDepth 100000
namespace My
open PySem L2 KR
theorem hRx {ds : List D} (hl : ds.length ≤ 1000) : okR (ds.length : Int) := ⟨by omega, by omega⟩
theorem equal_rng {ds : List D} {R : List Int} (hR : rng1 [.int (ds.length : Int)] = some (ints' R)) :
  icl rng1 (acons (cal (f1 glen) (acons (getv 1) (KR.ret []))) (KR.ret [])) [some (.val (.tup ds)), some (.val (.tup ds)), none] = some (.ok (ints' R), [some (.val (.tup ds)), some (.val (.tup ds)), none]) := icl_ok (as := [.int ds.length]) (by simp) hR
theorem equal_body {ds : List D} {Z : M (List D)} {R : List Int} {b : S} {u' : Option RV} (hi : Z [some (.val (.tup ds)), some (.val (.tup ds)), none] = some (.ok (ints' R), [some (.val (.tup ds)), some (.val (.tup ds)), none])) (e : forL (gnm 2) b (ints' R) [] [some (.val (.tup ds)), some (.val (.tup ds)), none] = some (.ok .nx, [some (.val (.tup ds)), some (.val (.tup ds)), u'])) :
  (seq (sif (tst (una gisN (getv 1))) (sret (val (una gisN (getv 0)))) skip)
  (seq (sif (tstV (una (gisi .bool) (getv 1))) (sret (val (vand (una (gisi .bool) (getv 0)) (KR.bin geq (getv 0) (getv 1))))) skip)
  (seq (sif (tstV (una (gisi .int) (getv 1))) (sret (val (vand (una (gisi .int) (getv 0)) (vand (una gnot (una (gisi .bool) (getv 0))) (KR.bin geq (getv 0) (getv 1)))))) skip)
  (seq (sif (tstV (una (gisi .str) (getv 1))) (sret (val (vand (una (gisi .str) (getv 0)) (KR.bin geq (getv 0) (getv 1))))) skip)
  (seq (sif (tand (tstV (una (gisi .tuple) (getv 1))) (tnot (tstV (una (gisi .tuple) (getv 0))))) (sret (val (KR.ret (.bl false)))) skip)
  (seq (sif (tand (tstV (una (gisi .list) (getv 1))) (tnot (tstV (una (gisi .list) (getv 0))))) (sret (val (KR.ret (.bl false)))) skip)
  (seq (sif (tst (KR.bin gne (cal (f1 glen) (acons (getv 0) (KR.ret []))) (cal (f1 glen) (acons (getv 1) (KR.ret []))))) (sret (val (KR.ret (.bl false)))) skip)
  (seq (sfor (gnm 2) Z b)
  (sret (val (KR.ret (.bl true)))))))))))) [] [some (.val (.tup ds)), some (.val (.tup ds)), none] = some (.ok (.ret (.val (.bl true))), [some (.val (.tup ds)), some (.val (.tup ds)), u']) := by
  have n0 : gisN (.tup ds) = some (.bl false) := rfl
  have n1 : ∀ T : Ty, gisi T (.tup ds) = some (.bl (match T with | .tuple => true | _ => false)) := fun T => rfl
  simp [n0, n1, hi, e]
theorem equal_tup {n : Nat} {ds : List D} (hl : ds.length ≤ 1000) (h : ∀ d ∈ ds, call n 6 [.val d, .val d] = some (.ok (.val (.bl true)), [.val d, .val d])) : call (n + 1) 6 [.val (.tup ds), .val (.tup ds)] = some (.ok (.val (.bl true)), [.val (.tup ds), .val (.tup ds)]) := by
  obtain ⟨R, hR, hm⟩ : ∃ R : List Int, rng1 [.int (ds.length : Int)] = some (ints' R) ∧ ∀ i ∈ R, 0 ≤ i ∧ i < ds.length := ⟨(List.range (ds.length : Int).toNat).map fun (i : Nat) => (i : Int), by rw [rng1, if_pos (hRx hl), rng_ints], fun p hp => by
    obtain ⟨i, hi, rfl⟩ := List.mem_map.mp hp
    have := List.mem_range.mp hi
    omega⟩
  obtain ⟨u', e⟩ := equal_for (cc := call n) h R none hm
  have e2 : b6 (call n) [] [some (.val (.tup ds)), some (.val (.tup ds)), none] = _ := equal_body (equal_rng hR) e
  rw [call]
  simp only [bodies]
  unfold runD
  simp [lockOf, backs, e2]
theorem equal_pl : ∀ (m n : Nat) (d : D), Pl m d → call (m + n + 1) 6 [.val d, .val d] = some (.ok (.val (.bl true)), [.val d, .val d]) := by
  intro m
  induction m with
  | zero =>
    intro n d h
    rcases h.none with ⟨i, rfl⟩ | ⟨x, rfl⟩ | rfl
    · exact equal_int (n := 0 + n)
    · exact equal_str (n := 0 + n)
    · exact equal_non (n := 0 + n)
  | succ m ih =>
    intro n d h
    have e : m + 1 + n + 1 = (m + n + 1) + 1 := by omega
    rw [e]
    cases h with
    | int _ i => exact equal_int
    | str _ x => exact equal_str
    | non _ => exact equal_non
    | tup _ ds hl hd => exact equal_tup hl fun d h => ih n d (hd d h)
end My

set_option Elab.async false
set_option linter.all false
set_option maxRecDepth 100000
namespace My
open PySem L2 KR
abbrev Tx (l : List Nat) : RV := .val (.str (S' l))
abbrev cp (x : Str) : List Nat := x.cps.toList
def letter (c : Nat) : Prop := c ∈ cp ("abcdefghijklmnopqrstuvwxyz" : Str)
instance (c : Nat) : Decidable (letter c) := by unfold letter; infer_instance
def Stop (r : List Nat) : Prop := r = [] ∨ ∃ c r', r = c :: r' ∧ ¬ letter c
theorem drop_nil {X : List Nat} {i : Nat} (h : X.drop i = []) (hi : i ≤ X.length) : i = X.length := by
  have := congrArg List.length h
  rw [List.length_drop, List.length_nil] at this
  omega
theorem word_end_eq {n : Nat} {X : List Nat} (hX : X.length ≤ 10000000) {i : Nat} {w r : List Nat} (hd : X.drop i = w ++ r) (hi : i ≤ X.length) (hw : ∀ c ∈ w, letter c) (hr : Stop r) :
    call (n + 1) 0 [Tx X, KR.I i] = some (.ok (KR.I ((i + w.length : Nat) : Int)), [Tx X, KR.I i]) := by
  have hz := glen_S (l := X) (by omega)
  have go : ∀ (w : List Nat) (i : Nat), X.drop i = w ++ r → i ≤ X.length → (∀ c ∈ w, letter c) → ∃ k, whileN (tand (tst (KR.bin glt (getv 1) (cal (f1 glen) (acons (getv 0) (KR.ret []))))) (tst (KR.bin gin (KR.bin gix (getv 0) (getv 1)) (KR.ret (.str "abcdefghijklmnopqrstuvwxyz"))))) (gaug giadd 1 (KR.ret (.int 1))) k [] [some (Tx X), some (KR.I i)] = some (.ok .nx, [some (Tx X), some (KR.I ((i + w.length : Nat) : Int))]) := by
    intro w
    induction w with
    | nil =>
      intro i hd hi _
      refine ⟨1, ?_⟩
      rw [whileN_done (ρ1 := [some (Tx X), some (KR.I i)])]
      · rfl
      · rcases hr with rfl | ⟨c, r', rfl, hc⟩
        · have e : ¬ ((i : Int) < (X.length : Int)) := by have := drop_nil (by simpa using hd) hi; omega
          simp [hz, e]
        · have hlt : (i : Int) < (X.length : Int) := by
            have := congrArg List.length hd
            rw [List.length_drop] at this
            simp at this
            omega
          have g1 := gix_S (X := X) (i := i) (c := c) (r := r') (by simpa using hd) (by omega)
          have g2 := gin_S (c := c) (x := "abcdefghijklmnopqrstuvwxyz")
          have g3 : decide (c ∈ cp ("abcdefghijklmnopqrstuvwxyz" : Str)) = false := decide_eq_false hc
          rw [g3] at g2
          simp only [tand_ap, bnd_ap, tst_ap, bin_ap, getv_ap, cal_ap, acons_ap, ret_ap, f1_ap, lift_ap, List.getElem?_cons_zero, List.getElem?_cons_succ, hz, glt_ap, asB_ap, hlt, decide_true, if_true, g1, g2]
    | cons c w ih =>
      intro i hd hi hw
      have hc := hw c List.mem_cons_self
      have hlt : i < X.length := by
        have := congrArg List.length hd
        rw [List.length_drop] at this
        simp at this
        omega
      have hlt' : (i : Int) < (X.length : Int) := by omega
      have hd2 : X.drop (i + 1) = w ++ r := by
        have := adv (X := X) (a := [c]) (b := w ++ r) (i := i) (by simpa using hd)
        simpa using this
      obtain ⟨k, e⟩ := ih (i + 1) hd2 (by omega) fun c h => hw c (List.mem_cons_of_mem _ h)
      refine ⟨k + 1, ?_⟩
      have g1 := gix_S (X := X) (i := i) (c := c) (r := w ++ r) (by simpa using hd) (by omega)
      have g2 := gin_S (c := c) (x := "abcdefghijklmnopqrstuvwxyz")
      have g3 : decide (c ∈ cp ("abcdefghijklmnopqrstuvwxyz" : Str)) = true := decide_eq_true hc
      rw [g3] at g2
      rw [whileN_step (ρ1 := [some (Tx X), some (KR.I i)]) (ρ2 := [some (Tx X), some (KR.I ((i + 1 : Nat) : Int))]), e]
      · rw [List.length_cons, show i + 1 + w.length = i + (w.length + 1) by omega]
      · simp only [tand_ap, bnd_ap, tst_ap, bin_ap, getv_ap, cal_ap, acons_ap, ret_ap, f1_ap, lift_ap, List.getElem?_cons_zero, List.getElem?_cons_succ, hz, glt_ap, asB_ap, hlt', decide_true, if_true, g1, g2]
      · simp [giadd]
  obtain ⟨k, e⟩ := go w i hd hi hw
  have e2 := swhile_of e
  simp [call, bodies, runD, b0, lockOf, backs, e2]
theorem sign_at {X : List Nat} (hX : X.length ≤ 10000000) {i : Nat} {c : Nat} {r : List Nat} (hd : X.drop i = c :: r) (hi : i ≤ X.length) : gsl (some (i : Int)) (some ((i : Int) + 1)) (.str (S' X)) = some (.str (S' [c])) :=
  gsl_S (a := [c]) (r := r) (i := i) (j := i + 1) (by simpa using hd) rfl hi (by omega)
theorem cut_at {X : List Nat} (hX : X.length ≤ 10000000) {i : Nat} {a r : List Nat} (hd : X.drop i = a ++ r) (hi : i ≤ X.length) : gsl (some (i : Int)) (some ((i + a.length : Nat) : Int)) (.str (S' X)) = some (.str (S' a)) :=
  gsl_S (a := a) (r := r) hd rfl hi (by omega)
def sg : Nat → List (List Nat) → List Nat
  | _, [] => []
  | c, t :: ts => c :: t ++ sg 44 ts
def allow (k : Str) (ps : List D) : Option (List Nat) :=
  if k = "rest" then (match ps with
    | [_, .int m] => if m = 2 then some [48, 49] else if m = 3 then some [48, 49, 50] else none
    | _ => none)
  else match tb_DIGITS.lookup k with
    | some (.str x) => some (cp x)
    | _ => none
inductive As (ns : List Str) (T : D → List Nat → Bool → Int → Prop) : List D → List D → List D → List (List Nat) → Bool → Bool → Int → Prop
  | nil (ps : List D) : As ns T ps [] [] [] false false 0
  | q {ps ks ds : List D} {ts : List (List Nat)} {b b2 nm : Bool} {p p2 : Int} {d : D} {t : List Nat} : T d t b p → As ns T (ps ++ [d]) ks ds ts b2 nm p2 → As ns T ps (.str "question" :: ks) (d :: ds) (t :: ts) (b || b2) nm (p + p2)
  | name {ps : List D} {x : Str} : x ∈ ns → (∀ c ∈ cp x, letter c) → As ns T ps [.str "name"] [.str x] [cp x] true true 0
  | dig {ps ks ds : List D} {ts : List (List Nat)} {b nm : Bool} {p : Int} {k : Str} {j : Nat} {al : List Nat} : k ≠ "question" → k ≠ "name" → allow k ps = some al → 48 + j ∈ al → j ≤ 3 → As ns T (ps ++ [.int j]) ks ds ts b nm p →
      As ns T ps (.str k :: ks) (.int j :: ds) ([48 + j] :: ts) b nm p
def Tg (ns : List Str) : Nat → D → List Nat → Bool → Int → Prop
  | 0, _, _, _, _ => False
  | m + 1, d, t, b, p => (∃ w : Str, (w = "now" ∨ w = "nothing") ∧ d = .tup [.str w] ∧ t = cp w ∧ b = false ∧ p = 1) ∨
      ∃ (w : Str) (ks ds : List D) (ts : List (List Nat)) (b2 : Bool) (p2 : Int), tb_SHAPES.lookup w = some (.tup ks) ∧ ts ≠ [] ∧ ts.length ≤ 3 ∧ As ns (Tg ns m) [.str w] ks ds ts b2 (decide (w = "is")) p2 ∧ d = .tup (.str w :: ds) ∧ t = cp w ++ (sg 40 ts ++ [41]) ∧ b = b2 ∧ p = 1 + p2
end My

set_option Elab.async false
set_option linter.all false
set_option maxRecDepth 100000
namespace My
open PySem L2 KR
abbrev NS (names : List Str) : RV := .val (.tup (names.map .str))
theorem lookup_mem {α : Type} {w : Str} : ∀ {l : List (Str × α)} {v : α}, l.lookup w = some v → w ∈ l.map (·.1)
  | [], v, h => by cases h
  | (k, a) :: l, v, h => by
    rw [List.lookup_cons] at h
    by_cases q : w = k
    · rw [q]; exact List.mem_cons_self
    · rw [show (w == k) = false from beq_eq_false_iff_ne.mpr q] at h
      exact List.mem_cons_of_mem _ (lookup_mem h)
theorem shape_ok {w : Str} {v : D} (h : tb_SHAPES.lookup w = some v) : (∀ c ∈ cp w, letter c) ∧ w ≠ "now" ∧ w ≠ "nothing" ∧ (cp w).length ≤ 10 := by
  have a : ∀ w ∈ tb_SHAPES.map (·.1), (∀ c ∈ cp w, letter c) ∧ w ≠ "now" ∧ w ≠ "nothing" ∧ (cp w).length ≤ 10 := by
    have e : tb_SHAPES.map (·.1) = (["is", "less", "same", "if", "last", "first", "before", "great", "least", "times", "circle", "since", "among"] : List Str) := rfl
    rw [e]
    decide +kernel
  exact a w (lookup_mem h)
theorem arg_q {k : Nat} {X : List Nat} {j : Int} {names : List Str} {ps : List D} {R : D} (h : call k 2 [Tx X, KR.I j, NS names] = some (.ok (.val R), [Tx X, KR.I j, NS names])) :
    call (k + 1) 1 [.val (.str "question"), Tx X, KR.I j, NS names, .olst ps] = some (.ok (.val R), [.val (.str "question"), Tx X, KR.I j, NS names, .olst ps]) := by
  simp [call, bodies, runD, b1, lockOf, backs, takeA, putA, h]
theorem qn : ("name" : Str) ≠ "question" := by decide +kernel
theorem arg_name {k : Nat} {X : List Nat} (hX : X.length ≤ 10000000) {j : Nat} {names : List Str} {ps : List D} {x : Str} {r : List Nat} (hd : X.drop j = cp x ++ r) (hj : j ≤ X.length) (hw : ∀ c ∈ cp x, letter c) (hr : Stop r) :
    call (k + 2) 1 [.val (.str "name"), Tx X, KR.I j, NS names, .olst ps] = some (.ok (.val (if x ∈ names then .tup [.str x, .int ((j + (cp x).length : Nat) : Int)] else .non)), [.val (.str "name"), Tx X, KR.I j, NS names, .olst ps]) := by
  have e := word_end_eq (n := k) hX hd hj hw hr
  have c := cut_at hX hd hj
  rw [S_toList] at c
  have g := gin_strs (x := x) (ys := names)
  obtain ⟨E, hE⟩ : ∃ E : Int, E = ((j + (cp x).length : Nat) : Int) := ⟨_, rfl⟩
  rw [← hE] at e c ⊢
  rw [show k + 2 = (k + 1) + 1 from rfl, call]
  by_cases q : x ∈ names
  · simp only [q, decide_true] at g
    simp only [bodies]
    unfold runD b1
    simp [qn, lockOf, backs, takeA, putA, e, asI, c, g, q]
  · simp only [q, decide_false] at g
    simp only [bodies]
    unfold runD b1
    simp [qn, lockOf, backs, takeA, putA, e, asI, c, g, q]
theorem int_sign {j : Nat} (h : j ≤ 3) : gint (.str (S' [48 + j])) = some (.int j) := by
  match j, h with
  | 0, _ => 
    have : PySem.intText? (S' [48]) = some 0 := by decide +kernel
    unfold gint; simp [this, S_len]
  | 1, _ => 
    have : PySem.intText? (S' [49]) = some 1 := by decide +kernel
    unfold gint; simp [this, S_len]
  | 2, _ => 
    have : PySem.intText? (S' [50]) = some 2 := by decide +kernel
    unfold gint; simp [this, S_len]
  | 3, _ => 
    have : PySem.intText? (S' [51]) = some 3 := by decide +kernel
    unfold gint; simp [this, S_len]
theorem allowed {kd : Str} {ps : List D} {al : List Nat} (ha : allow kd ps = some al) {ρ : KR.Env} (h0 : ρ[0]? = some (some (.val (.str kd)))) (h4 : ρ[4]? = some (some (.olst ps))) :
    ∃ y : Str, cp y = al ∧ (ite' (tst (KR.bin geq (getv 0) (KR.ret (.str "rest")))) (cut (KR.ret (.str "012")) (KR.ret none) (par (ixv 4 (KR.ret (.int 1))))) (una (gitK tb_DIGITS) (getv 0))) ρ = some (.ok (.str y), ρ) := by
  unfold allow at ha
  by_cases q : kd = "rest"
  · rw [if_pos q] at ha
    split at ha
    · rename_i d m
      have l3 : ("012" : Str).length ≤ sizeLine := by decide +kernel
      by_cases q2 : m = 2
      · rw [if_pos q2] at ha
        cases ha
        subst q2
        refine ⟨S' [48, 49], by simp [S'], ?_⟩
        have g : gsl none (some 2) (.str "012") = some (.str (S' [48, 49])) := by
          unfold gsl
          dsimp only
          rw [if_pos l3]
          exact congrArg (fun x => some (D.str x)) (by decide +kernel)
        simp [h0, h4, q, asI, g]
      · rw [if_neg q2] at ha
        by_cases q3 : m = 3
        · rw [if_pos q3] at ha
          cases ha
          subst q3
          refine ⟨S' [48, 49, 50], by simp [S'], ?_⟩
          have g : gsl none (some 3) (.str "012") = some (.str (S' [48, 49, 50])) := by
            unfold gsl
            dsimp only
            rw [if_pos l3]
            exact congrArg (fun x => some (D.str x)) (by decide +kernel)
          simp [h0, h4, q, asI, g]
        · rw [if_neg q3] at ha
          cases ha
    · cases ha
  · rw [if_neg q] at ha
    split at ha
    · rename_i x hx
      cases ha
      refine ⟨x, rfl, ?_⟩
      have g : gitK tb_DIGITS (.str kd) = some (.str x) := hx
      simp [h0, q, g]
    · cases ha
theorem S_ne {c : Nat} : ¬ S' [c] = ("" : Str) := by
  intro e
  have := congrArg Str.length e
  rw [S_len] at this
  have h0 : ("" : Str).length = 0 := by decide +kernel
  rw [h0] at this
  cases this
theorem arg_dig {k : Nat} {X : List Nat} (hX : X.length ≤ 10000000) {j jj : Nat} {names : List Str} {ps : List D} {kd : Str} {al r : List Nat} (h1 : kd ≠ "question") (h2 : kd ≠ "name") (ha : allow kd ps = some al) (hm : 48 + jj ∈ al) (hj3 : jj ≤ 3) (hd : X.drop j = (48 + jj) :: r) (hj : j ≤ X.length) :
    call (k + 1) 1 [.val (.str kd), Tx X, KR.I j, NS names, .olst ps] = some (.ok (.val (.tup [.int jj, .int ((j : Int) + 1)])), [.val (.str kd), Tx X, KR.I j, NS names, .olst ps]) := by
  obtain ⟨y, hy, e⟩ := allowed ha (ρ := [some (.val (.str kd)), some (Tx X), some (KR.I j), some (NS names), some (.olst ps), none, none]) rfl rfl
  have s1 := sign_at hX hd hj
  have g1 := gin_S (c := 48 + jj) (x := y)
  rw [show decide (48 + jj ∈ y.cps.toList) = true from decide_eq_true (by rw [show y.cps.toList = al from hy]; exact hm)] at g1
  have x1 := gix_S hd (by omega)
  have i1 := int_sign hj3
  have e5 : sset 5 (val (ite' (tst (KR.bin geq (getv 0) (KR.ret (.str "rest")))) (cut (KR.ret (.str "012")) (KR.ret none) (par (ixv 4 (KR.ret (.int 1))))) (una (gitK tb_DIGITS) (getv 0)))) [4] [some (.val (.str kd)), some (Tx X), some (KR.I j), some (NS names), some (.olst ps), none, none] = some (.ok .nx, [some (.val (.str kd)), some (Tx X), some (KR.I j), some (NS names), some (.olst ps), some (.val (.str y)), none]) := by
    rw [sset_ap, sbnd_ap, val_ap, bnd_ap, e]
    simp
  rw [call]
  simp only [bodies]
  unfold runD b1
  generalize sset 5 _ = Z at e5 ⊢
  simp [h1, h2, lockOf, backs, e5, asI, s1, S_ne, g1, x1, i1]
end My

set_option Elab.async false
set_option linter.all false
set_option maxRecDepth 100000
namespace My
open PySem L2 KR
abbrev BR (cc : Nat → Cl) : S := (seq (sif (tst (KR.bin gne (cut (getv 0) (par (getv 1)) (par (KR.bin gadd (getv 1) (KR.ret (.int 1))))) (getv 6))) (sret (val (KR.ret .non))) skip)
  (seq (sset 8 (ocall (cc 1) 5 (cval (getv 7) (cval (getv 0) (cval (KR.bin gadd (getv 1) (KR.ret (.int 1))) (cval (getv 2) (clend 5 (KR.ret []))))))))
  (seq (sif (tst (una gisN (getv 8))) (sret (val (KR.ret .non))) skip)
  (seq (sdo (apnd 5 (KR.bin gix (getv 8) (KR.ret (.int 0)))))
  (seq (sset 1 (val (KR.bin gix (getv 8) (KR.ret (.int 1)))))
  (sset 6 (val (KR.ret (.str ","))))))))) 
theorem turn_ok {cc : Nat → Cl} {X : List Nat} (hX : X.length ≤ 10000000) {i : Nat} {c : Nat} {r : List Nat} (hd : X.drop i = c :: r) (hi : i ≤ X.length) {names : List Str} {ps : List D} (hp : ps.length ≤ 100) {kd d : D} {z : Int} {v3 v4 v8 : Option RV}
    (h : cc 1 [.val kd, Tx X, KR.I ((i + 1 : Nat) : Int), NS names, .olst ps] = some (.ok (.val (.tup [d, .int z])), [.val kd, Tx X, KR.I ((i + 1 : Nat) : Int), NS names, .olst ps])) :
    BR cc [] [some (Tx X), some (KR.I i), some (NS names), v3, v4, some (.olst ps), some (.val (.str (S' [c]))), some (.val kd), v8] = some (.ok .nx, [some (Tx X), some (KR.I z), some (NS names), v3, v4, some (.olst (ps ++ [d])), some (.val (.str ",")), some (.val kd), some (.val (.tup [d, .int z]))]) := by
  have s1 := sign_at hX hd hi
  have hp' : ps.length < 16777216 := by omega
  have h' : cc 1 [.val kd, Tx X, KR.I ((i : Int) + 1), NS names, .olst ps] = _ := h
  have n1 : gisN (.tup [d, .int z]) = some (.bl false) := rfl
  simp [asI, s1, takeA, putA, h', n1, hp']
theorem turn_no {cc : Nat → Cl} {X : List Nat} (hX : X.length ≤ 10000000) {i : Nat} {c : Nat} {r : List Nat} (hd : X.drop i = c :: r) (hi : i ≤ X.length) {names : List Str} {ps : List D} {kd : D} {v3 v4 v8 : Option RV}
    (h : cc 1 [.val kd, Tx X, KR.I ((i + 1 : Nat) : Int), NS names, .olst ps] = some (.ok (.val .non), [.val kd, Tx X, KR.I ((i + 1 : Nat) : Int), NS names, .olst ps])) :
    BR cc [] [some (Tx X), some (KR.I i), some (NS names), v3, v4, some (.olst ps), some (.val (.str (S' [c]))), some (.val kd), v8] = some (.ok (.ret (.val .non)), [some (Tx X), some (KR.I i), some (NS names), v3, v4, some (.olst ps), some (.val (.str (S' [c]))), some (.val kd), some (.val .non)]) := by
  have s1 := sign_at hX hd hi
  have h' : cc 1 [.val kd, Tx X, KR.I ((i : Int) + 1), NS names, .olst ps] = _ := h
  have n1 : gisN .non = some (.bl true) := rfl
  simp [asI, s1, takeA, putA, h', n1]
def RdOk (cc : Nat → Cl) (names : List Str) (ok : Bool) (T : D → List Nat → Bool → Int → Prop) : Prop := ∀ (d : D) (t : List Nat) (b : Bool) (p : Int), T d t b p → ∀ (X : List Nat) (i : Nat) (r : List Nat), X.length ≤ 10000000 → X.drop i = t ++ r → i ≤ X.length → Stop r →
  cc 2 [Tx X, KR.I i, NS names] = some (.ok (.val (if (b && !ok) = true then .non else .tup [d, .int ((i + t.length : Nat) : Int)])), [Tx X, KR.I i, NS names])
theorem letter_no : ¬ letter 44 ∧ ¬ letter 41 ∧ ¬ letter 40 := by decide +kernel
theorem stop_sg {ts : List (List Nat)} {r : List Nat} : Stop (sg 44 ts ++ 41 :: r) := by
  cases ts with
  | nil => exact .inr ⟨41, r, rfl, letter_no.2.1⟩
  | cons t ts => exact .inr ⟨44, _, rfl, letter_no.1⟩
theorem comma : S' [44] = ("," : Str) := by decide +kernel
theorem args_for {k : Nat} {ns names : List Str} {ok : Bool} (hn : ∀ x ∈ ns, decide (x ∈ names) = ok) {T : D → List Nat → Bool → Int → Prop} (hT : RdOk (call (k + 1)) names ok T) {X : List Nat} (hX : X.length ≤ 10000000) {r : List Nat} {v3 v4 : Option RV}
    {ps ks ds : List D} {ts : List (List Nat)} {b nm : Bool} {p : Int} (h : As ns T ps ks ds ts b nm p) : ∀ (i c : Nat) (v7 v8 : Option RV), X.drop i = sg c ts ++ 41 :: r → i ≤ X.length → ps.length + ts.length ≤ 50 →
    ∃ (ρ' : KR.Env) (v6' v7' v8' : Option RV), forL (gnm 7) (BR (call (k + 2))) ks [] [some (Tx X), some (KR.I i), some (NS names), v3, v4, some (.olst ps), some (.val (.str (S' [c]))), v7, v8] =
      if (b && !ok) = true then some (.ok (.ret (.val .non)), ρ') else some (.ok .nx, [some (Tx X), some (KR.I ((i + (sg c ts).length : Nat) : Int)), some (NS names), v3, v4, some (.olst (ps ++ ds)), v6', v7', v8']) := by
  induction h with
  | nil ps =>
    intro i c v7 v8 hd hi hl
    refine ⟨[], some (.val (.str (S' [c]))), v7, v8, ?_⟩
    simp [forL, skip_ap, sg]
  | @q ps ks ds ts b b2 nm p p2 d t h1 h2 ih =>
    intro i c v7 v8 hd hi hl
    have hd1 : X.drop i = c :: (t ++ (sg 44 ts ++ 41 :: r)) := by rw [hd]; simp [sg]
    have hd2 : X.drop (i + 1) = t ++ (sg 44 ts ++ 41 :: r) := by
      have := adv (X := X) (a := [c]) (b := t ++ (sg 44 ts ++ 41 :: r)) (i := i) hd1
      simpa using this
    have hi2 : i + 1 ≤ X.length := adv_le (a := [c]) (b := t ++ (sg 44 ts ++ 41 :: r)) hd1 hi
    have e := arg_q (ps := ps) (hT d t b p h1 X (i + 1) _ hX hd2 hi2 stop_sg)
    rw [List.length_cons] at hl
    by_cases q : (b && !ok) = true
    · rw [if_pos q] at e
      have tn := turn_no (v3 := v3) (v4 := v4) (v8 := v8) hX hd1 hi e
      refine ⟨[some (Tx X), some (KR.I i), some (NS names), v3, v4, some (.olst ps), some (.val (.str (S' [c]))), some (.val (.str "question")), some (.val .non)], none, none, none, ?_⟩
      rw [forL_ret (ρ1 := [some (Tx X), some (KR.I i), some (NS names), v3, v4, some (.olst ps), some (.val (.str (S' [c]))), some (.val (.str "question")), v8]) (by simp) tn]
      have q2 : ((b || b2) && !ok) = true := by revert q; cases b <;> cases b2 <;> cases ok <;> decide
      rw [if_pos q2]
    · rw [if_neg q] at e
      have tn := turn_ok (v3 := v3) (v4 := v4) (v8 := v8) hX hd1 hi (by omega) e
      rw [← comma] at tn
      have hd3 : X.drop (i + 1 + t.length) = sg 44 ts ++ 41 :: r := adv hd2
      have hi3 := adv_le hd2 hi2
      obtain ⟨ρ', v6', v7', v8', z⟩ := ih (i + 1 + t.length) 44 (some (.val (.str "question"))) (some (.val (.tup [d, .int ((i + 1 + t.length : Nat) : Int)]))) hd3 hi3 (by rw [List.length_append, List.length_singleton]; omega)
      refine ⟨ρ', v6', v7', v8', ?_⟩
      rw [forL_nx (ρ1 := [some (Tx X), some (KR.I i), some (NS names), v3, v4, some (.olst ps), some (.val (.str (S' [c]))), some (.val (.str "question")), v8]) (by simp) tn, z]
      have q2 : ((b || b2) && !ok) = (b2 && !ok) := by revert q; cases b <;> cases b2 <;> cases ok <;> decide
      rw [q2]
      have e1 : i + 1 + t.length + (sg 44 ts).length = i + (sg c (t :: ts)).length := by simp [sg]; omega
      rw [e1, List.append_assoc, List.singleton_append]
  | @name ps x hx hw =>
    intro i c v7 v8 hd hi hl
    have hd1 : X.drop i = c :: (cp x ++ 41 :: r) := by rw [hd]; simp [sg]
    have hd2 : X.drop (i + 1) = cp x ++ 41 :: r := by
      have := adv (X := X) (a := [c]) (b := cp x ++ 41 :: r) (i := i) hd1
      simpa using this
    have hi2 : i + 1 ≤ X.length := adv_le (a := [c]) (b := cp x ++ 41 :: r) hd1 hi
    have e := arg_name (k := k) (names := names) (ps := ps) hX hd2 hi2 hw (.inr ⟨41, r, rfl, letter_no.2.1⟩)
    have hm := hn x hx
    by_cases q : ok = true
    · subst q
      rw [if_pos (of_decide_eq_true hm)] at e
      have tn := turn_ok (v3 := v3) (v4 := v4) (v8 := v8) hX hd1 hi (by omega) e
      refine ⟨[], some (.val (.str ",")), some (.val (.str "name")), some (.val (.tup [.str x, .int ((i + 1 + (cp x).length : Nat) : Int)])), ?_⟩
      rw [forL_nx (ρ1 := [some (Tx X), some (KR.I i), some (NS names), v3, v4, some (.olst ps), some (.val (.str (S' [c]))), some (.val (.str "name")), v8]) (by simp) tn, forL_nil, if_neg (by decide)]
      have e1 : i + 1 + (cp x).length = i + (sg c [cp x]).length := by simp [sg]; omega
      rw [e1]
    · have q' : ok = false := by cases ok <;> simp_all
      subst q'
      rw [if_neg (of_decide_eq_false hm)] at e
      have tn := turn_no (v3 := v3) (v4 := v4) (v8 := v8) hX hd1 hi e
      refine ⟨[some (Tx X), some (KR.I i), some (NS names), v3, v4, some (.olst ps), some (.val (.str (S' [c]))), some (.val (.str "name")), some (.val .non)], none, none, none, ?_⟩
      rw [forL_ret (ρ1 := [some (Tx X), some (KR.I i), some (NS names), v3, v4, some (.olst ps), some (.val (.str (S' [c]))), some (.val (.str "name")), v8]) (by simp) tn, if_pos (by decide)]
  | @dig ps ks ds ts b nm p kd j al h1 h2 ha hm hj hr ih =>
    intro i c v7 v8 hd hi hl
    have hd1 : X.drop i = c :: ([48 + j] ++ (sg 44 ts ++ 41 :: r)) := by rw [hd]; simp [sg]
    have hd2 : X.drop (i + 1) = [48 + j] ++ (sg 44 ts ++ 41 :: r) := by
      have := adv (X := X) (a := [c]) (b := [48 + j] ++ (sg 44 ts ++ 41 :: r)) (i := i) hd1
      simpa using this
    have hi2 : i + 1 ≤ X.length := adv_le (a := [c]) (b := [48 + j] ++ (sg 44 ts ++ 41 :: r)) hd1 hi
    have e := arg_dig (k := k + 1) (names := names) hX h1 h2 ha hm hj (by simpa using hd2) hi2
    have e' : ((i + 1 : Nat) : Int) + 1 = ((i + 1 + 1 : Nat) : Int) := rfl
    rw [e'] at e
    rw [List.length_cons] at hl
    have tn := turn_ok (v3 := v3) (v4 := v4) (v8 := v8) hX hd1 hi (by omega) e
    rw [← comma] at tn
    have hd3 : X.drop (i + 1 + 1) = sg 44 ts ++ 41 :: r := adv (a := [48 + j]) hd2
    have hi3 := adv_le (a := [48 + j]) hd2 hi2
    obtain ⟨ρ', v6', v7', v8', z⟩ := ih (i + 1 + 1) 44 (some (.val (.str kd))) (some (.val (.tup [.int j, .int ((i + 1 + 1 : Nat) : Int)]))) hd3 hi3 (by rw [List.length_append, List.length_singleton]; omega)
    refine ⟨ρ', v6', v7', v8', ?_⟩
    rw [forL_nx (ρ1 := [some (Tx X), some (KR.I i), some (NS names), v3, v4, some (.olst ps), some (.val (.str (S' [c]))), some (.val (.str kd)), v8]) (by simp) tn, z]
    have e1 : i + 1 + 1 + (sg 44 ts).length = i + (sg c ([48 + j] :: ts)).length := by simp [sg]; omega
    rw [e1, List.append_assoc, List.singleton_append]
end My

set_option Elab.async false
set_option linter.all false
set_option maxRecDepth 100000
namespace My
open PySem L2 KR
theorem lpar : ("(" : Str) = S' [40] := by decide +kernel
theorem rpar : (")" : Str) = S' [41] := by decide +kernel
theorem read_at_ok {ns names : List Str} {ok : Bool} (hn : ∀ x ∈ ns, decide (x ∈ names) = ok) : ∀ (m n : Nat), RdOk (call (2 * m + n + 1)) names ok (Tg ns m) := by
  intro m
  induction m with
  | zero => intro n d t b p h; exact h.elim
  | succ m ih =>
    intro n d t b p h X i r hX hd hi hr
    rw [show 2 * (m + 1) + n + 1 = (2 * m + n + 2) + 1 by omega, call]
    rcases h with ⟨w, hw, rfl, rfl, rfl, rfl⟩ | ⟨w, ks, ds, ts, b2, p2, hs, h0, h3, ha, rfl, rfl, rfl, rfl⟩
    · have hl : ∀ c ∈ cp w, letter c := by rcases hw with rfl | rfl <;> decide +kernel
      have e1 := word_end_eq (n := 2 * m + n + 1) hX hd hi hl hr
      have c1 := cut_at hX hd hi
      rw [S_toList] at c1
      obtain ⟨E, hE⟩ : ∃ E : Nat, E = i + (cp w).length := ⟨_, rfl⟩
      rw [← hE] at e1 c1 ⊢
      have g := gin_strs (x := w) (ys := ["now", "nothing"])
      rw [show decide (w ∈ (["now", "nothing"] : List Str)) = true from decide_eq_true (by rcases hw with rfl | rfl <;> simp)] at g
      simp only [List.map_cons, List.map_nil] at g
      simp only [bodies]
      unfold runD b2
      simp [lockOf, backs, takeA, putA, e1, asI, c1, g]
    · obtain ⟨hl, w1, w2, w3⟩ := shape_ok hs
      have hd' : X.drop i = cp w ++ (sg 40 ts ++ 41 :: r) := by rw [hd]; simp
      have st : Stop (sg 40 ts ++ 41 :: r) := by
        cases ts with
        | nil => exact absurd rfl h0
        | cons t ts => exact .inr ⟨40, _, rfl, letter_no.2.2⟩
      have e1 := word_end_eq (n := 2 * m + n + 1) hX hd' hi hl st
      have c1 := cut_at hX hd' hi
      rw [S_toList] at c1
      have hd2 := adv hd'
      have hi2 := adv_le hd' hi
      obtain ⟨ρ', v6, v7, v8, z⟩ := args_for (k := 2 * m + n) hn (ih n) hX (v3 := some (KR.I ((i + (cp w).length : Nat) : Int))) (v4 := some (.val (.str w))) ha (i + (cp w).length) 40 none none hd2 hi2 (by simp; omega)
      have hd3 : X.drop (i + (cp w).length + (sg 40 ts).length) = 41 :: r := adv hd2
      have hi3 := adv_le hd2 hi2
      have s3 := sign_at hX hd3 hi3
      have eG : i + (cp w ++ (sg 40 ts ++ [41])).length = i + (cp w).length + (sg 40 ts).length + 1 := by simp; omega
      rw [eG]
      obtain ⟨E, hE⟩ : ∃ E : Nat, E = i + (cp w).length := ⟨_, rfl⟩
      rw [← hE] at e1 c1 z s3 ⊢
      obtain ⟨G, hG⟩ : ∃ G : Nat, G = E + (sg 40 ts).length := ⟨_, rfl⟩
      rw [← hG] at z s3 ⊢
      have g := gin_strs (x := w) (ys := ["now", "nothing"])
      rw [show decide (w ∈ (["now", "nothing"] : List Str)) = false from decide_eq_false (by simp [w1, w2])] at g
      simp only [List.map_cons, List.map_nil] at g
      have g2 : gninK tb_SHAPES (.str w) = some (.bl false) := by
        show some (D.bl (!(tb_SHAPES.lookup w).isSome)) = _
        rw [hs]
        rfl
      have g3 : gitK tb_SHAPES (.str w) = some (.tup ks) := hs
      simp only [bodies]
      unfold runD b2
      by_cases q : (b && !ok) = true
      · rw [if_pos q] at z ⊢
        simp [lockOf, backs, takeA, putA, e1, asI, c1, g, g2, g3, lpar, z]
      · rw [if_neg q] at z ⊢
        simp [lockOf, backs, takeA, putA, e1, asI, c1, g, g2, g3, lpar, z, s3, rpar]
theorem read_question_ok {ns names : List Str} {ok : Bool} (hn : ∀ x ∈ ns, decide (x ∈ names) = ok) {m n : Nat} {d : D} {t : List Nat} {b : Bool} {p : Int} (h : Tg ns m d t b p) (hX : t.length ≤ 10000000) :
    call (2 * m + n + 2) 3 [Tx t, NS names] = some (.ok (.val (if (b && !ok) = true then .non else d)), [Tx t, NS names]) := by
  have e := read_at_ok hn m n d t b p h t 0 [] hX (by simp) (Nat.zero_le _) (.inl rfl)
  rw [Nat.zero_add] at e
  have e' : call (2 * m + n + 1) 2 [Tx t, .val (.int 0), NS names] = _ := e
  have g := glen_S (l := t) (by omega)
  rw [show 2 * m + n + 2 = (2 * m + n + 1) + 1 from rfl, call]
  simp only [bodies]
  unfold runD b3
  by_cases q : (b && !ok) = true
  · rw [if_pos q] at e' ⊢
    have n1 : gisN .non = some (.bl true) := rfl
    simp [lockOf, backs, takeA, putA, e', n1]
  · rw [if_neg q] at e' ⊢
    have n1 : gisN (.tup [d, .int (t.length : Nat)]) = some (.bl false) := rfl
    simp [lockOf, backs, takeA, putA, e', n1, g]
end My

set_option Elab.async false
set_option linter.all false
set_option maxRecDepth 100000
namespace My
open PySem L2 KR
variable {ns : List Str} {T : D → List Nat → Bool → Int → Prop} {ps ks ds : List D} {ts : List (List Nat)} {b nm : Bool} {p : Int}
theorem as_all2 {P : D → Option D → Prop} (h : As ns T ps ks ds ts b nm p) (hT : ∀ d t b p, T d t b p → P d (some (.str (S' t)))) (hN : ∀ x ∈ ns, P (.str x) (some (.str x))) (hD : ∀ j : Nat, j ≤ 3 → P (.int j) (some (.str (S' [48 + j])))) : All2 P ds (ts.map fun t => some (.str (S' t))) := by
  induction h with
  | nil => exact .nil
  | q h1 _ ih => exact .cons (hT _ _ _ _ h1) ih
  | @name ps x hx _ => exact .cons (show P (.str x) (some (.str (S' (cp x)))) by rw [S_toList]; exact hN _ hx) .nil
  | dig _ _ _ _ hj _ ih => exact .cons (hD _ hj) ih
theorem as_len (h : As ns T ps ks ds ts b nm p) {L : Nat} (hT : ∀ d t b p, T d t b p → t.length ≤ L) (hN : ∀ x ∈ ns, (cp x).length ≤ L) (h1 : 1 ≤ L) : ds.length = ts.length ∧ (∀ c, (sg c ts).length ≤ ts.length * (L + 1)) ∧ (ts.map List.length).sum ≤ ts.length * L := by
  induction h with
  | nil => exact ⟨rfl, fun _ => by simp [sg], by simp⟩
  | @q ps ks ds ts b b2 nm p p2 d t h1 _ ih =>
    have := hT _ _ _ _ h1
    refine ⟨by simp [ih.1], fun c => ?_, ?_⟩
    · have := ih.2.1 44
      simp only [sg, List.length_append, List.length_cons, Nat.add_mul, Nat.one_mul]
      omega
    · have := ih.2.2
      simp only [List.map_cons, List.sum_cons, List.length_cons, Nat.add_mul, Nat.one_mul]
      omega
  | @name ps x hx _ =>
    have := hN _ hx
    refine ⟨rfl, fun c => ?_, ?_⟩
    · simp only [sg, List.length_append, List.length_cons, List.length_nil]
      omega
    · simp only [List.map_cons, List.map_nil, List.sum_cons, List.sum_nil, List.length_cons, List.length_nil]
      omega
  | @dig ps ks ds ts b nm p k j al _ _ _ _ hj _ ih =>
    refine ⟨by simp [ih.1], fun c => ?_, ?_⟩
    · have := ih.2.1 44
      simp only [sg, List.length_append, List.length_cons, List.length_nil, Nat.add_mul, Nat.one_mul]
      omega
    · have := ih.2.2
      simp only [List.map_cons, List.sum_cons, List.length_cons, List.length_nil, Nat.add_mul, Nat.one_mul]
      omega
abbrev LL (m : Nat) : Nat := 20 * 3 ^ m - 10
theorem LL_pos (m : Nat) : 1 ≤ 3 ^ m := Nat.pow_pos (by decide)
theorem tg_len (hN : ∀ x ∈ ns, (cp x).length ≤ 8) : ∀ (m : Nat) (d : D) (t : List Nat) (b : Bool) (p : Int), Tg ns m d t b p → t.length ≤ LL m
  | 0, _, _, _, _, h => h.elim
  | m + 1, d, t, b, p, h => by
    have hm := LL_pos m
    have e : 3 ^ (m + 1) = 3 ^ m * 3 := Nat.pow_succ 3 m
    rcases h with ⟨w, hw, rfl, rfl, rfl, rfl⟩ | ⟨w, ks, ds, ts, b2, p2, hs, h0, h3, ha, rfl, rfl, rfl, rfl⟩
    · have : (cp w).length ≤ 8 := by rcases hw with rfl | rfl <;> decide +kernel
      show _ ≤ 20 * 3 ^ (m + 1) - 10
      rw [e]
      omega
    · obtain ⟨_, _, _, w3⟩ := shape_ok hs
      obtain ⟨_, l2, _⟩ := as_len ha (L := LL m) (tg_len hN m) (fun x hx => by have := hN x hx; show _ ≤ 20 * 3 ^ m - 10; omega) (by show 1 ≤ 20 * 3 ^ m - 10; omega)
      have l2 := l2 40
      have l4 : ts.length * (LL m + 1) ≤ 3 * (LL m + 1) := Nat.mul_le_mul_right _ h3
      rw [List.length_append, List.length_append, List.length_singleton]
      show _ ≤ 20 * 3 ^ (m + 1) - 10
      have e2 : LL m = 20 * 3 ^ m - 10 := rfl
      rw [e2] at l2 l4
      rw [e]
      omega
theorem tg_tup {m : Nat} {d : D} {t : List Nat} (h : Tg ns m d t b p) : (∃ w ds, d = .tup (.str w :: ds)) ∧ gisi .tuple d = some (.bl true) := by
  cases m with
  | zero => exact h.elim
  | succ m =>
    rcases h with ⟨w, hw, rfl, rfl, rfl, rfl⟩ | ⟨w, ks, ds, ts, b2, p2, hs, h0, h3, ha, rfl, rfl, rfl, rfl⟩
    · exact ⟨⟨w, [], rfl⟩, rfl⟩
    · exact ⟨⟨w, ds, rfl⟩, rfl⟩
theorem joinL_sg (t : List Nat) : ∀ ts : List (List Nat), TL.joinL [44] (t :: ts) = t ++ sg 44 ts
  | [] => by simp [TL.joinL, sg]
  | u :: ts => by rw [TL.joinL, joinL_sg u ts]; simp [sg]
theorem dstrs_map : ∀ ts : List (List Nat), dstrs (ts.map fun t => .str (S' t)) = some (ts.map S')
  | [] => rfl
  | t :: ts => by rw [List.map_cons, dstrs, dstrs_map ts]; rfl
theorem join_ok {t : List Nat} {ts : List (List Nat)} (h : ((t :: ts).map List.length).sum + (t :: ts).length ≤ 16777216) : gjoin ("," : Str) (.lst ((t :: ts).map fun t => .str (S' t))) = some (.str (S' (t ++ sg 44 ts))) := by
  show joinG ("," : Str) _ = _
  unfold joinG
  rw [dstrs_map]
  dsimp only
  have e1 : (("," : Str)).length = 1 := by decide +kernel
  have e2 : ((t :: ts).map S').map (fun x => x.length) = (t :: ts).map List.length := by
    rw [List.map_map]
    apply List.map_congr_left
    intro x _
    exact S_len
  rw [if_pos (by rw [e1, e2, List.length_map]; omega), TL.join_eq, ← S_toList (Str.join _ _)]
  have e3 := TL.tl_join ("," : Str) ((t :: ts).map S')
  have e4 : TL.tl ("," : Str) = [44] := by decide +kernel
  have e5 : ((t :: ts).map S').map TL.tl = t :: ts := by
    rw [List.map_map]
    conv => rhs; rw [← List.map_id (t :: ts)]
    apply List.map_congr_left
    intro x _
    simp [TL.tl, S']
  rw [e4, e5, joinL_sg] at e3
  exact congrArg (fun l => some (D.str (S' l))) e3
end My

set_option Elab.async false
set_option linter.all false
set_option maxRecDepth 100000
namespace My
open PySem L2 KR
variable {ns : List Str}
theorem str_fig {j : Nat} (h : j ≤ 3) : gstr2 (.int j) = some (.str (S' [48 + j])) := by
  show (if (j : Int).natAbs.log2 < 1920 then some (D.str (toString (j : Int))) else none) = _
  match j, h with
  | 0, _ => rw [if_pos (by decide +kernel)]; exact congrArg (fun x => some (D.str x)) (by decide +kernel)
  | 1, _ => rw [if_pos (by decide +kernel)]; exact congrArg (fun x => some (D.str x)) (by decide +kernel)
  | 2, _ => rw [if_pos (by decide +kernel)]; exact congrArg (fun x => some (D.str x)) (by decide +kernel)
  | 3, _ => rw [if_pos (by decide +kernel)]; exact congrArg (fun x => some (D.str x)) (by decide +kernel)
theorem tail_cut {w : D} {ds : List D} : gsl (some 1) none (.tup (w :: ds)) = some (.tup ds) := by
  show some (D.tup (cutD (w :: ds) (some 1) none)) = _
  unfold cutD
  have e1 : HT.sIx (w :: ds).length 0 (some 1) = 1 := by
    have := HT.sIx_nat (w :: ds).length 0 1
    rw [show ((1 : Nat) : Int) = 1 from rfl] at this
    rw [this, List.length_cons]
    omega
  have e2 : HT.sIx (w :: ds).length (w :: ds).length none = (w :: ds).length := rfl
  rw [e1, e2]
  simp
theorem glue {w : Str} {t : List Nat} {ts : List (List Nat)} (hw : (cp w).length ≤ 10) (h : (sg 40 (t :: ts)).length ≤ 10000000) :
    (gadd (.str w) (.str "(")) = some (.str (S' (cp w ++ [40]))) ∧ gadd (.str (S' (cp w ++ [40]))) (.str (S' (t ++ sg 44 ts))) = some (.str (S' (cp w ++ [40] ++ (t ++ sg 44 ts)))) ∧ gadd (.str (S' (cp w ++ [40] ++ (t ++ sg 44 ts)))) (.str ")") = some (.str (S' (cp w ++ (sg 40 (t :: ts) ++ [41])))) := by
  have h2 : t.length + (sg 44 ts).length + 1 ≤ 10000000 := by simp [sg] at h; omega
  refine ⟨?_, gadd_S (by simp only [List.length_append, List.length_singleton]; omega), ?_⟩
  · have := gadd_S (a := cp w) (b := [40]) (by simp only [List.length_singleton]; omega)
    rwa [S_toList, ← lpar] at this
  · have := gadd_S (a := cp w ++ [40] ++ (t ++ sg 44 ts)) (b := [41]) (by simp only [List.length_append, List.length_singleton]; omega)
    rw [← rpar] at this
    rw [this]
    simp [sg]
structure Lim (ns : List Str) (m : Nat) : Prop where
  n : ∀ x ∈ ns, (cp x).length ≤ 8
  m : m ≤ 11
theorem lim_pow {m : Nat} (h : m ≤ 10) : 3 ^ m ≤ 59049 := Nat.pow_le_pow_right (by decide) h
theorem node_len {ps ks ds : List D} {ts : List (List Nat)} {b nm : Bool} {p : Int} {m : Nat} (h : As ns (Tg ns m) ps ks ds ts b nm p) (l : Lim ns (m + 1)) (h3 : ts.length ≤ 3) : (sg 40 ts).length ≤ 10000000 ∧ (ts.map List.length).sum + ts.length ≤ 16777216 ∧ ds.length = ts.length := by
  have hm := lim_pow (m := m) (by have := l.m; omega)
  have hp := LL_pos m
  obtain ⟨l1, l2, l3⟩ := as_len h (L := LL m) (tg_len l.n m) (fun x hx => by have := l.n x hx; show _ ≤ 20 * 3 ^ m - 10; omega) (by show 1 ≤ 20 * 3 ^ m - 10; omega)
  have l4 : ts.length * (LL m + 1) ≤ 3 * (LL m + 1) := Nat.mul_le_mul_right _ h3
  have l5 : ts.length * LL m ≤ 3 * LL m := Nat.mul_le_mul_right _ h3
  have l6 := l2 40
  have e : LL m = 20 * 3 ^ m - 10 := rfl
  rw [e] at l4 l5 l6 l3
  exact ⟨by omega, by omega, l1⟩
theorem text_for {cc : Nat → Cl} {P : D → List Nat → Prop} {v0 : Option RV} (hP : ∀ d t, P d t → ∀ (acc : List D) (v0 u : Option RV), acc.length ≤ 100 → (sif (tstV (una (gisi .tuple) (getv 2))) (sdo (apnd 1 (frz (ocall (cc 11) 1 (cval (getv 2) (KR.ret [])))))) (sdo (apnd 1 (cal (f1 gstr2) (acons (getv 2) (KR.ret [])))))) [] [v0, some (.olst acc), some (.val d)] = some (.ok .nx, [v0, some (.olst (acc ++ [.str (S' t)])), some (.val d)])) {ds : List D} {ts : List (List Nat)}
    (h : All2 (fun d r => ∃ t, r = some (.str (S' t)) ∧ P d t) ds (ts.map fun t => some (.str (S' t)))) : ∀ (acc : List D) (u : Option RV), acc.length + ts.length ≤ 100 → ∃ u' : Option RV, forL (gnm 2) (sif (tstV (una (gisi .tuple) (getv 2))) (sdo (apnd 1 (frz (ocall (cc 11) 1 (cval (getv 2) (KR.ret [])))))) (sdo (apnd 1 (cal (f1 gstr2) (acons (getv 2) (KR.ret [])))))) ds [] [v0, some (.olst acc), u] = some (.ok .nx, [v0, some (.olst (acc ++ ts.map fun t => .str (S' t))), u']) := by
  generalize hz : (ts.map fun t => (some (.str (S' t)) : Option D)) = zs at h
  induction h generalizing ts with
  | nil =>
    intro acc u _
    cases ts with
    | nil => exact ⟨u, by simp [forL]⟩
    | cons t ts => cases hz
  | @cons x r xs rs hp hr ih =>
    intro acc u hl
    cases ts with
    | nil => cases hz
    | cons t ts =>
      rw [List.map_cons] at hz
      injection hz with z1 z2
      obtain ⟨t', e1, h1⟩ := hp
      rw [e1] at z1
      injection z1 with z1
      injection z1 with z1
      rw [S_inj] at z1
      subst z1
      rw [List.length_cons] at hl
      obtain ⟨u', e⟩ := ih z2 (acc ++ [.str (S' t)]) (some (.val x)) (by rw [List.length_append, List.length_singleton]; omega)
      refine ⟨u', ?_⟩
      rw [forL_nx (ρ1 := [v0, some (.olst acc), some (.val x)]) (by simp) (hP x t h1 acc v0 u (by omega)), e, List.append_assoc]
      rfl
theorem text_ok : ∀ (m n : Nat) (d : D) (t : List Nat) (b : Bool) (p : Int), Lim ns m → Tg ns m d t b p → call (m + n + 1) 11 [.val d] = some (.ok (.val (.str (S' t))), [.val d]) := by
  intro m
  induction m with
  | zero => intro n d t b p _ h; exact h.elim
  | succ m ih =>
    intro n d t b p l h
    rw [show m + 1 + n + 1 = (m + n + 1) + 1 by omega, call]
    rcases h with ⟨w, hw, rfl, rfl, rfl, rfl⟩ | ⟨w, ks, ds, ts, b2, p2, hs, h0, h3, ha, rfl, rfl, rfl, rfl⟩
    · rw [S_toList]
      simp [bodies, runD, b11, lockOf, backs]
    · obtain ⟨_, _, _, w3⟩ := shape_ok hs
      obtain ⟨n1, n2, n3⟩ := node_len ha l h3
      cases ts with
      | nil => exact absurd rfl h0
      | cons t ts =>
        have all := as_all2 (P := fun x r => ∃ t, r = some (.str (S' t)) ∧ ((∃ b p, Tg ns m x t b p) ∨ (gisi .tuple x = some (.bl false) ∧ gstr2 x = some (.str (S' t))))) ha
          (fun d t b p hd => ⟨t, rfl, .inl ⟨b, p, hd⟩⟩) (fun x hx => ⟨cp x, by rw [S_toList], .inr ⟨rfl, by rw [S_toList]; rfl⟩⟩) (fun j hj => ⟨_, rfl, .inr ⟨rfl, str_fig hj⟩⟩)
        obtain ⟨u', e⟩ := text_for (cc := call (m + n + 1)) (v0 := some (.val (.tup (.str w :: ds)))) (fun d t hd acc v0 u hacc => by
          have hacc' : acc.length < 16777216 := by omega
          rcases hd with ⟨b, p, hd⟩ | ⟨hd1, hd2⟩
          · have z := ih n d t b p ⟨l.n, by have := l.m; omega⟩ hd
            simp [(tg_tup hd).2, takeA, putA, z, hacc']
          · simp [hd1, hd2, hacc']) all [] none (by simp at h3 ⊢; omega)
        have j := join_ok (t := t) (ts := ts) (by simpa using n2)
        obtain ⟨s1, s2, g1, g2, g3⟩ : ∃ s1 s2 : D, gadd (.str w) (.str "(") = some s1 ∧ gadd s1 (.str (S' (t ++ sg 44 ts))) = some s2 ∧ gadd s2 (.str ")") = some (.str (S' (cp w ++ (sg 40 (t :: ts) ++ [41])))) := ⟨_, _, (glue (w := w) w3 n1).1, (glue w3 n1).2.1, (glue w3 n1).2.2⟩
        have hlen : ¬ ((ds.length : Int) + 1 = 1) := by simp at n3; omega
        rw [List.nil_append] at e
        have ej : ∀ u' : Option RV, joinD (KR.ret (.str ",")) (getv 1) [some (.val (.tup (.str w :: ds))), some (.olst ((t :: ts).map fun t => D.str (S' t))), u'] = some (.ok (.str (S' (t ++ sg 44 ts))), [some (.val (.tup (.str w :: ds))), some (.val (.lst ((t :: ts).map fun t => D.str (S' t)))), u']) := fun u' => by
          unfold joinD
          rw [bnd_ap, ret_ap]
          dsimp only
          rw [bnd_ap, getv_ap]
          simp only [List.getElem?_cons_succ, List.getElem?_cons_zero, fr_olst, List.set_cons_succ, List.set_cons_zero, lift_ap, j]
        simp only [bodies]
        unfold runD b11
        generalize ((t :: ts).map fun t => D.str (S' t)) = ys at e ej
        generalize joinD _ _ = J at ej ⊢
        generalize sif (tstV (una (gisi .tuple) (getv 2))) _ _ = Z at e ⊢
        simp [lockOf, backs, hlen, asI, tail_cut, e, ej, g1, g2, g3]
end My

set_option Elab.async false
set_option linter.all false
set_option maxRecDepth 100000
namespace My
open PySem L2 KR
theorem as_mono {ns : List Str} {T T' : D → List Nat → Bool → Int → Prop} {ps ks ds : List D} {ts : List (List Nat)} {b nm : Bool} {p : Int} (h : As ns T ps ks ds ts b nm p) (hT : ∀ d t b p, T d t b p → T' d t b p) : As ns T' ps ks ds ts b nm p := by
  induction h with
  | nil ps => exact .nil ps
  | q h1 _ ih => exact .q (hT _ _ _ _ h1) ih
  | name hx hw => exact .name hx hw
  | dig h1 h2 h3 h4 h5 _ ih => exact .dig h1 h2 h3 h4 h5 ih
theorem tg_up {ns : List Str} : ∀ (m : Nat) (d : D) (t : List Nat) (b : Bool) (p : Int), Tg ns m d t b p → Tg ns (m + 1) d t b p
  | 0, _, _, _, _, h => h.elim
  | m + 1, d, t, b, p, h => by
    rcases h with h | ⟨w, ks, ds, ts, b2, p2, hs, h0, h3, ha, e1, e2, e3, e4⟩
    · exact .inl h
    · exact .inr ⟨w, ks, ds, ts, b2, p2, hs, h0, h3, as_mono ha (tg_up m), e1, e2, e3, e4⟩
theorem tg_le {ns : List Str} {m m' : Nat} (h : m ≤ m') {d : D} {t : List Nat} {b : Bool} {p : Int} (k : Tg ns m d t b p) : Tg ns m' d t b p := by
  induction h with
  | refl => exact k
  | step _ ih => exact tg_up _ _ _ _ _ ih
def Tr (ns : List Str) (m q : Nat) (d : D) : Prop := ∃ t b p, Tg ns m d t b p ∧ p ≤ (q : Int)
theorem Tr.le {ns : List Str} {m m' q q' : Nat} {d : D} (h : m ≤ m') (h2 : q ≤ q') (k : Tr ns m q d) : Tr ns m' q' d := by obtain ⟨t, b, p, k, k2⟩ := k; exact ⟨t, b, p, tg_le h k, by omega⟩
theorem tr_leaf {ns : List Str} {w : Str} (h : w = "now" ∨ w = "nothing") : Tr ns 1 1 (.tup [.str w]) := ⟨_, _, _, .inl ⟨w, h, rfl, rfl, rfl, rfl⟩, by omega⟩
theorem tr_is {ns : List Str} {x : Str} (h : x ∈ ns) (hw : ∀ x ∈ ns, ∀ c ∈ cp x, letter c) : Tr ns 1 1 (.tup [.str "is", .str x]) :=
  ⟨_, _, _, .inr ⟨"is", [.str "name"], [.str x], [cp x], true, 0, rfl, by simp, by simp, by rw [show decide (("is" : Str) = "is") = true from decide_eq_true rfl]; exact .name h (hw x h), rfl, rfl, rfl, rfl⟩, by omega⟩
theorem one_word {w : Str} (h : w = "last" ∨ w = "first" ∨ w = "before") : tb_SHAPES.lookup w = some (.tup [.str "question"]) ∧ decide (w = "is") = false := by
  rcases h with rfl | rfl | rfl <;> exact ⟨rfl, by decide +kernel⟩
theorem two_word {w : Str} (h : w = "less" ∨ w = "same" ∨ w = "since" ∨ w = "among") : tb_SHAPES.lookup w = some (.tup [.str "question", .str "question"]) ∧ decide (w = "is") = false := by
  rcases h with rfl | rfl | rfl | rfl <;> exact ⟨rfl, by decide +kernel⟩
theorem tr_one {ns : List Str} {m : Nat} {w : Str} (h : w = "last" ∨ w = "first" ∨ w = "before") {d : D} {q : Nat} (k : Tr ns m q d) : Tr ns (m + 1) (q + 1) (.tup [.str w, d]) := by
  obtain ⟨t, b, p, k, kp⟩ := k
  obtain ⟨h1, h2⟩ := one_word h
  exact ⟨_, _, _, .inr ⟨w, _, [d], [t], _, _, h1, by simp, by simp, by rw [h2]; exact .q k (.nil _), rfl, rfl, rfl, rfl⟩, by omega⟩
theorem tr_two {ns : List Str} {m : Nat} {w : Str} (h : w = "less" ∨ w = "same" ∨ w = "since" ∨ w = "among") {d e : D} {q q2 : Nat} (k : Tr ns m q d) (j : Tr ns m q2 e) : Tr ns (m + 1) (q + q2 + 1) (.tup [.str w, d, e]) := by
  obtain ⟨t, b, p, k, kp⟩ := k
  obtain ⟨t2, b2, p2, j, jp⟩ := j
  obtain ⟨h1, h2⟩ := two_word h
  exact ⟨_, _, _, .inr ⟨w, _, [d, e], [t, t2], _, _, h1, by simp, by simp, by rw [h2]; exact .q k (.q j (.nil _)), rfl, rfl, rfl, rfl⟩, by omega⟩
theorem tr_if {ns : List Str} {m : Nat} {d e f : D} {q q2 q3 : Nat} (k : Tr ns m q d) (j : Tr ns m q2 e) (i : Tr ns m q3 f) : Tr ns (m + 1) (q + q2 + q3 + 1) (.tup [.str "if", d, e, f]) := by
  obtain ⟨t, b, p, k, kp⟩ := k
  obtain ⟨t2, b2, p2, j, jp⟩ := j
  obtain ⟨t3, b3, p3, i, ip⟩ := i
  exact ⟨_, _, _, .inr ⟨"if", _, [d, e, f], [t, t2, t3], _, _, rfl, by simp, by simp, by rw [show decide (("if" : Str) = "is") = false by decide +kernel]; exact .q k (.q j (.q i (.nil _))), rfl, rfl, rfl, rfl⟩, by omega⟩
theorem tr_num {ns : List Str} {m : Nat} {w : Str} {j : Nat} (h : ((w = "great" ∨ w = "least") ∧ 1 ≤ j ∧ j ≤ 2) ∨ (w = "times" ∧ 1 ≤ j ∧ j ≤ 3)) {d : D} {q : Nat} (k : Tr ns m q d) : Tr ns (m + 1) (q + 1) (.tup [.str w, .int j, d]) := by
  obtain ⟨t, b, p, k, kp⟩ := k
  obtain ⟨kd, al, h1, h2, h3, h4, h5, h6, h7⟩ : ∃ (kd : Str) (al : List Nat), tb_SHAPES.lookup w = some (.tup [.str kd, .str "question"]) ∧ decide (w = "is") = false ∧ kd ≠ "question" ∧ kd ≠ "name" ∧ allow kd [.str w] = some al ∧ 48 + j ∈ al ∧ j ≤ 3 := by
    have a2 : cp ("12" : Str) = [49, 50] := by decide +kernel
    have a3 : cp ("123" : Str) = [49, 50, 51] := by decide +kernel
    have r2 : ¬ (("two" : Str) = "rest") := by decide +kernel
    have r3 : ¬ (("three" : Str) = "rest") := by decide +kernel
    rcases h with ⟨hw, j1, j2⟩ | ⟨hw, j1, j2⟩
    · refine ⟨"two", [49, 50], by rcases hw with rfl | rfl <;> rfl, by rcases hw with rfl | rfl <;> decide +kernel, by decide +kernel, by decide +kernel, ?_, by simp; omega, by omega⟩
      unfold allow
      rw [if_neg r2]
      exact congrArg some a2
    · refine ⟨"three", [49, 50, 51], by rw [hw]; rfl, by rw [hw]; decide +kernel, by decide +kernel, by decide +kernel, ?_, by simp; omega, by omega⟩
      unfold allow
      rw [if_neg r3]
      exact congrArg some a3
  exact ⟨_, _, _, .inr ⟨w, _, [.int j, d], [[48 + j], t], _, _, h1, by simp, by simp, by rw [h2]; exact .dig h3 h4 h5 h6 h7 (.q k (.nil _)), rfl, rfl, rfl, rfl⟩, by omega⟩
theorem tr_circle {ns : List Str} {m i j : Nat} (h : i = 2 ∨ i = 3) (hj : j < i) {d : D} {q : Nat} (k : Tr ns m q d) : Tr ns (m + 1) (q + 1) (.tup [.str "circle", .int i, .int j, d]) := by
  obtain ⟨t, b, p, k, kp⟩ := k
  have a2 : cp ("23" : Str) = [50, 51] := by decide +kernel
  have r2 : ¬ (("circle" : Str) = "rest") := by decide +kernel
  have al : allow "circle" [.str "circle"] = some [50, 51] := by
    unfold allow
    rw [if_neg r2]
    exact congrArg some a2
  obtain ⟨al2, e1, e2⟩ : ∃ al2, allow "rest" ([.str "circle"] ++ [.int i]) = some al2 ∧ 48 + j ∈ al2 := by
    rcases h with rfl | rfl
    · exact ⟨[48, 49], rfl, by simp; omega⟩
    · exact ⟨[48, 49, 50], rfl, by simp; omega⟩
  exact ⟨_, _, _, .inr ⟨"circle", _, [.int i, .int j, d], [[48 + i], [48 + j], t], _, _, rfl, by simp, by simp, by
    rw [show decide (("circle" : Str) = "is") = false by decide +kernel]
    exact .dig (by decide +kernel) (by decide +kernel) al (by simp; omega) (by omega) (.dig (by decide +kernel) (by decide +kernel) e1 e2 (by omega) (.q k (.nil _))), rfl, rfl, rfl, rfl⟩, by omega⟩
end My

set_option Elab.async false
set_option linter.all false
set_option maxRecDepth 100000
namespace My
open PySem L2 KR
theorem compL_step {t : M Bool} {elt : M D} {v N : Nat} {x y : D} {xs acc : List D} {ρ ρ1 ρ3 : KR.Env} (hv : v < ρ.length) (hN : ρ.length = N) (ht : t (ρ.set v (some (.val x))) = some (.ok true, ρ1)) (he : elt ρ1 = some (.ok y, ρ3)) (hk : okW ρ3 [v] = true) :
    compL (gnm v) t elt [v] N (x :: xs) acc ρ = compL (gnm v) t elt [v] N xs (acc ++ [y]) (ρ3.set v none) := by
  have hg : gnm v x (oth N [v]) ρ = some (ρ.set v (some (.val x))) := if_pos ⟨hv, oth_not⟩
  rw [compL, hg]
  dsimp only
  rw [if_pos (by rw [List.length_set, hN]), ht]
  dsimp only
  rw [he]
  dsimp only
  rw [if_pos hk]
  rfl
structure Nm (ns : List Str) : Prop where
  w : ∀ x ∈ ns, ∀ c ∈ cp x, letter c
  l : ∀ x ∈ ns, (cp x).length ≤ 8
  o : ∀ x ∈ ns, x ∉ (["other", "x"] : List Str)
  p : 0 < ns.length
  q : ns.length ≤ 3
abbrev menu : List D := [.str "a", .str "now", .str "tick", .str "zz", .str "b", .str "is", .str "abcdefgh"]
abbrev menuS : List Str := ["a", "now", "tick", "zz", "b", "is", "abcdefgh"]
theorem menu_ok : ∀ x ∈ menuS, (∀ c ∈ cp x, letter c) ∧ (cp x).length ≤ 8 ∧ x ∉ (["other", "x"] : List Str) := by decide +kernel
theorem menu_at {f k : Int} : ∃ x ∈ menuS, gix (.lst menu) (.int ((f + 3 * k) % 7)) = some (.str x) := by
  have h0 : 0 ≤ (f + 3 * k) % 7 := Int.emod_nonneg _ (by decide)
  have h1 : (f + 3 * k) % 7 < 7 := Int.emod_lt_of_pos _ (by decide)
  generalize (f + 3 * k) % 7 = z at *
  rcases (show z = 0 ∨ z = 1 ∨ z = 2 ∨ z = 3 ∨ z = 4 ∨ z = 5 ∨ z = 6 by omega) with rfl | rfl | rfl | rfl | rfl | rfl | rfl
  · exact ⟨"a", by simp, rfl⟩
  · exact ⟨"now", by simp, rfl⟩
  · exact ⟨"tick", by simp, rfl⟩
  · exact ⟨"zz", by simp, rfl⟩
  · exact ⟨"b", by simp, rfl⟩
  · exact ⟨"is", by simp, rfl⟩
  · exact ⟨"abcdefgh", by simp, rfl⟩
abbrev EN : M D := (KR.bin gix (getv 1) (KR.bin gmod (cal (f1 gint) (acons (KR.bin gadd (getv 2) (KR.bin gmul (KR.ret (.int 3)) (getv 3))) (KR.ret []))) (KR.ret (.int 7))))
theorem names_comp {s : RV} {f : Int} : ∀ (xs : List Int) (r : RV) (acc : List Str), (r = .olst menu ∨ r = .val (.lst menu)) → (∀ x ∈ acc, x ∈ menuS) → ∃ (ns : List Str) (r' : RV), (r' = .olst menu ∨ r' = .val (.lst menu)) ∧ (∀ x ∈ ns, x ∈ menuS) ∧ ns.length = acc.length + xs.length ∧
    compL (gnm 3) (KR.ret true) EN [3] 4 (ints' xs) (acc.map .str) [some s, some r, some (KR.I f), none] = some (ns.map .str, [some s, some r', some (KR.I f), none])
  | [], r, acc, hr, ha => ⟨acc, r, hr, ha, rfl, by simp [compL]⟩
  | k :: xs, r, acc, hr, ha => by
    obtain ⟨x, hx, e⟩ := menu_at (f := f) (k := k)
    obtain ⟨ns, r', h1, h2, h3, h4⟩ := names_comp (s := s) (f := f) xs (.val (.lst menu)) (acc ++ [x]) (.inr rfl) fun y hy => by
      rcases List.mem_append.mp hy with h | h
      · exact ha y h
      · rw [List.mem_singleton] at h; rw [h]; exact hx
    refine ⟨ns, r', h1, h2, by rw [h3, List.length_append, List.length_singleton, List.length_cons]; omega, ?_⟩
    have g3 : gmul (.int 3) (.int k) = some (.int (3 * k)) := gmul_l (by decide)
    have g7 : gmod (.int (f + 3 * k)) (.int 7) = some (.int ((f + 3 * k) % 7)) := gmod_pos (by decide)
    rw [← h4]
    rw [show ints' (k :: xs) = .int k :: ints' xs from rfl, compL_step (N := 4) (y := .str x) (ρ1 := [some s, some r, some (KR.I f), some (KR.I k)]) (ρ3 := [some s, some (.val (.lst menu)), some (KR.I f), some (KR.I k)]) (by simp) rfl (by simp) ?_ (by rfl)]
    · simp
    · generalize menu = mm at *
      rcases hr with rfl | rfl <;> simp [g3, g7, e]
theorem names_eq {n : Nat} {t : List Int} {k : Int} (ht : Tp t) (hl : t.length ≤ 2520) (h0 : 0 ≤ k) (h1 : k < 990000) : ∃ ns : List Str, Nm ns ∧ call (n + 3) 8 [St t k] = some (.ok (NS ns), [St t (k + 2)]) := by
  obtain ⟨f, f0, f1, e1⟩ := take_eq (n := n) (m := 7) ht hl h0 (by omega) (by decide)
  obtain ⟨c, c0, c1, e2⟩ := take_eq (n := n) (k := k + 1) (m := 3) ht hl (by omega) (by omega) (by decide)
  obtain ⟨R, hR, lR⟩ : ∃ R : List Int, rng1 [.int (1 + c)] = some (ints' R) ∧ (R.length : Int) = 1 + c := ⟨_, by rw [rng1, if_pos ⟨by omega, by omega⟩, rng_ints], by simp; omega⟩
  obtain ⟨ns, r', a1, a2, a3, a4⟩ := names_comp (s := St t (k + 1 + 1)) (f := f) R (.olst menu) [] (.inl rfl) (fun x h => by cases h)
  simp at a3
  refine ⟨ns, ⟨fun x h => (menu_ok x (a2 x h)).1, fun x h => (menu_ok x (a2 x h)).2.1, fun x h => (menu_ok x (a2 x h)).2.2, by omega, by omega⟩, ?_⟩
  have hi : icl rng1 (acons (KR.bin gadd (KR.ret (.int 1)) (frz (ocall (call (n + 2) 7) 2 (clend 0 (cval (KR.ret (.int 3)) (KR.ret [])))))) (KR.ret [])) [some (St t (k + 1)), some (.olst menu), some (KR.I f), none] = some (.ok (ints' R), [some (St t (k + 1 + 1)), some (.olst menu), some (KR.I f), none]) :=
    icl_ok (as := [.int (1 + c)]) (by simp [takeA, putA, e2]) hR
  have z : lcomp [3] (icl rng1 (acons (KR.bin gadd (KR.ret (.int 1)) (frz (ocall (call (n + 2) 7) 2 (clend 0 (cval (KR.ret (.int 3)) (KR.ret [])))))) (KR.ret []))) (gnm 3) (KR.ret true) EN [some (St t (k + 1)), some (.olst menu), some (KR.I f), none] = some (.ok (.olst (ns.map .str)), [some (St t (k + 1 + 1)), some r', some (KR.I f), none]) := by
    rw [lcomp_ap, bnd_ap, hi]
    dsimp only
    rw [if_pos ⟨rfl, by rw [size_line]; simp; omega⟩]
    have a4' : compL (gnm 3) (KR.ret true) EN [3] 4 (ints' R) [] [some (St t (k + 1 + 1)), some (.olst menu), some (KR.I f), none] = _ := a4
    have w1 : wipeE [some (St t (k + 1 + 1)), some (.olst menu), some (KR.I f), none] [3] = [some (St t (k + 1 + 1)), some (.olst menu), some (KR.I f), none] := rfl
    have w2 : ([some (St t (k + 1 + 1)), some (.olst menu), some (KR.I f), none] : KR.Env).length = 4 := rfl
    rw [w1, w2, a4']
    rfl
  rw [show n + 3 = (n + 2) + 1 from rfl, call]
  simp only [bodies]
  unfold runD b8
  have ek : k + 1 + 1 = k + 2 := by omega
  rw [ek] at z
  generalize lcomp _ _ _ _ _ = Z at z ⊢
  simp [lockOf, backs, takeA, putA, e1, z]
theorem leaf_eq {n : Nat} {ns : List Str} (hn : Nm ns) {t : List Int} {k : Int} (ht : Tp t) (hl : t.length ≤ 2520) (h0 : 0 ≤ k) (h1 : k < 990000) : ∃ (d : D) (k' : Int), Tr ns 1 1 d ∧ k ≤ k' ∧ k' ≤ k + 2 ∧ call (n + 3) 9 [St t k, NS ns] = some (.ok (.val d), [St t k', NS ns]) := by
  obtain ⟨f, f0, f1, e1⟩ := take_eq (n := n) (m := 5) ht hl h0 (by omega) (by decide)
  rw [show n + 3 = (n + 2) + 1 from rfl, call]
  simp only [bodies]
  unfold runD b9
  by_cases q1 : f < 2
  · exact ⟨_, k + 1, tr_leaf (.inl rfl), by omega, by omega, by simp [lockOf, backs, takeA, putA, e1, q1]⟩
  · by_cases q2 : f = 2
    · exact ⟨_, k + 1, tr_leaf (.inr rfl), by omega, by omega, by simp [lockOf, backs, takeA, putA, e1, q2]⟩
    · obtain ⟨j, j0, j1, e2⟩ := take_eq (n := n) (k := k + 1) (m := (ns.length : Int)) ht hl (by omega) (by omega) (by have := hn.p; omega)
      have a := atI_int (xs := ns.map D.str) j0 (by simpa using j1)
      rw [List.getElem_map] at a
      refine ⟨_, k + 1 + 1, tr_is (List.getElem_mem (l := ns) (n := j.toNat) (by omega)) hn.w, by omega, by omega, ?_⟩
      simp [lockOf, backs, takeA, putA, e1, q1, q2, e2, a]
end My

set_option Elab.async false
set_option linter.all false
set_option maxRecDepth 100000
namespace My
open PySem L2 KR
abbrev l1 : List D := [.str "last", .str "first", .str "before"]
abbrev l2 : List D := [.str "great", .str "least", .str "times"]
abbrev l3 : List D := [.int 2, .int 2, .int 3]
abbrev l4 : List D := [.str "less", .str "same", .str "since", .str "among", .str "since", .str "among", .str "less", .str "same"]
theorem at_one {z : Int} (h0 : 0 ≤ z) (h1 : z < 3) : ∃ w : Str, (w = "last" ∨ w = "first" ∨ w = "before") ∧ atI l1 z = some (.str w) := by
  rcases (show z = 0 ∨ z = 1 ∨ z = 2 by omega) with rfl | rfl | rfl
  · exact ⟨_, .inl rfl, rfl⟩
  · exact ⟨_, .inr (.inl rfl), rfl⟩
  · exact ⟨_, .inr (.inr rfl), rfl⟩
theorem at_num {z : Int} (h0 : 0 ≤ z) (h1 : z < 3) : ∃ (w : Str) (m : Int), ((w = "great" ∨ w = "least") ∧ m = 2 ∨ w = "times" ∧ m = 3) ∧ atI l2 z = some (.str w) ∧ atI l3 z = some (.int m) := by
  rcases (show z = 0 ∨ z = 1 ∨ z = 2 by omega) with rfl | rfl | rfl
  · exact ⟨_, 2, .inl ⟨.inl rfl, rfl⟩, rfl, rfl⟩
  · exact ⟨_, 2, .inl ⟨.inr rfl, rfl⟩, rfl, rfl⟩
  · exact ⟨_, 3, .inr ⟨rfl, rfl⟩, rfl, rfl⟩
theorem at_two {z : Int} (h0 : 0 ≤ z) (h1 : z < 8) : ∃ w : Str, (w = "less" ∨ w = "same" ∨ w = "since" ∨ w = "among") ∧ atI l4 z = some (.str w) := by
  rcases (show z = 0 ∨ z = 1 ∨ z = 2 ∨ z = 3 ∨ z = 4 ∨ z = 5 ∨ z = 6 ∨ z = 7 by omega) with rfl | rfl | rfl | rfl | rfl | rfl | rfl | rfl
  · exact ⟨_, .inl rfl, rfl⟩
  · exact ⟨_, .inr (.inl rfl), rfl⟩
  · exact ⟨_, .inr (.inr (.inl rfl)), rfl⟩
  · exact ⟨_, .inr (.inr (.inr rfl)), rfl⟩
  · exact ⟨_, .inr (.inr (.inl rfl)), rfl⟩
  · exact ⟨_, .inr (.inr (.inr rfl)), rfl⟩
  · exact ⟨_, .inl rfl, rfl⟩
  · exact ⟨_, .inr (.inl rfl), rfl⟩
def TreeOk (cc : Nat → Cl) (ns : List Str) (t : List Int) (m : Nat) : Prop := ∀ (k : Int), 0 ≤ k → k + 8 * m < 900000 → ∃ (d : D) (k' : Int), Tr ns m m d ∧ k ≤ k' ∧ k' ≤ k + 8 * m ∧ cc 10 [St t k, NS ns, KR.I m] = some (.ok (.val d), [St t k', NS ns, KR.I m])
abbrev EK (cc : Nat → Cl) : M D := (frz (ocall (cc 10) 3 (clend 0 (cval (getv 1) (cval (KR.bin gdiv (KR.bin gsub (getv 2) (KR.ret (.int 1))) (KR.ret (.int 3))) (KR.ret []))))))
theorem kids_eq {cc : Nat → Cl} {ns : List Str} {t : List Int} {m j : Nat} (hT : TreeOk cc ns t j) (hj : j = (m - 1) / 3) (hm : 1 ≤ m) {k : Int} (h0 : 0 ≤ k) (h1 : k + 24 * j < 900000) {v3 v4 v5 v6 v7 : Option RV} :
    ∃ (d e f : D) (k' : Int), Tr ns j j d ∧ Tr ns j j e ∧ Tr ns j j f ∧ k ≤ k' ∧ k' ≤ k + 24 * j ∧ lcomp [8] (icl rng1 (acons (KR.ret (.int 3)) (KR.ret []))) (gnm 8) (KR.ret true) (EK cc) [some (St t k), some (NS ns), some (KR.I m), v3, v4, v5, v6, v7, none] = some (.ok (.olst [d, e, f]), [some (St t k'), some (NS ns), some (KR.I m), v3, v4, v5, v6, v7, none]) := by
  obtain ⟨d, k1, a1, a2, a3, a4⟩ := hT k h0 (by omega)
  obtain ⟨e, k2, b1, b2, b3, b4⟩ := hT k1 (by omega) (by omega)
  obtain ⟨f, k3, c1, c2, c3, c4⟩ := hT k2 (by omega) (by omega)
  refine ⟨d, e, f, k3, a1, b1, c1, by omega, by omega, ?_⟩
  have hd : gdiv (.int ((m : Int) - 1)) (.int 3) = some (.int (j : Nat)) := by
    rw [div_lit (by decide) (by decide)]
    have : ((m : Int) - 1) / 3 = (j : Nat) := by omega
    rw [this]
  have hR : rng1 [.int 3] = some [.int 0, .int 1, .int 2] := by rw [rng1, if_pos (by unfold okR; decide)]; rfl
  have hi : icl rng1 (acons (KR.ret (.int 3)) (KR.ret [])) [some (St t k), some (NS ns), some (KR.I m), v3, v4, v5, v6, v7, none] = some (.ok [.int 0, .int 1, .int 2], [some (St t k), some (NS ns), some (KR.I m), v3, v4, v5, v6, v7, none]) := icl_ok (as := [.int 3]) (by simp) hR
  have st : ∀ (x y : D) (xs acc : List D) (q q' : Int), cc 10 [St t q, NS ns, KR.I j] = some (.ok (.val y), [St t q', NS ns, KR.I j]) → compL (gnm 8) (KR.ret true) (EK cc) [8] 9 (x :: xs) acc [some (St t q), some (NS ns), some (KR.I m), v3, v4, v5, v6, v7, none] = compL (gnm 8) (KR.ret true) (EK cc) [8] 9 xs (acc ++ [y]) [some (St t q'), some (NS ns), some (KR.I m), v3, v4, v5, v6, v7, none] := by
    intro x y xs acc q q' z
    rw [compL_step (N := 9) (y := y) (ρ1 := [some (St t q), some (NS ns), some (KR.I m), v3, v4, v5, v6, v7, some (.val x)]) (ρ3 := [some (St t q'), some (NS ns), some (KR.I m), v3, v4, v5, v6, v7, some (.val x)]) (by simp) rfl (by simp) ?_ (by rfl)]
    · simp
    · simp [hd, takeA, putA, z]
  rw [lcomp_ap, bnd_ap, hi]
  dsimp only
  rw [if_pos ⟨rfl, by decide⟩]
  have w1 : wipeE [some (St t k), some (NS ns), some (KR.I m), v3, v4, v5, v6, v7, none] [8] = [some (St t k), some (NS ns), some (KR.I m), v3, v4, v5, v6, v7, none] := rfl
  have w2 : ([some (St t k), some (NS ns), some (KR.I m), v3, v4, v5, v6, v7, none] : KR.Env).length = 9 := rfl
  rw [w1, w2, st _ d _ _ k k1 a4, st _ e _ _ k1 k2 b4, st _ f _ _ k2 k3 c4]
  rfl
theorem tree_eq {ns : List Str} (hn : Nm ns) {t : List Int} (ht : Tp t) (hl : t.length ≤ 2520) : ∀ (m : Nat), 1 ≤ m → m ≤ 11 → ∀ n, TreeOk (call (m + n + 3)) ns t m := by
  intro m
  induction m using Nat.strongRecOn with
  | _ m ih =>
    intro hm hm2 n k h0 h1
    obtain ⟨f, f0, f1, e1⟩ := take_eq (n := m + n) (k := k) (m := 16) ht hl h0 (by omega) (by decide)
    rw [show m + n + 3 = (m + n + 2) + 1 from rfl, call]
    simp only [bodies]
    unfold runD b10
    by_cases q1 : (m : Int) < 2
    · obtain ⟨d, k', a1, a2, a3, a4⟩ := leaf_eq (n := m + n - 1) hn ht hl (k := k + 1) (by omega) (by omega)
      rw [show m + n - 1 + 3 = m + n + 2 by omega] at a4
      exact ⟨d, k', a1.le hm hm, by omega, by omega, by simp [lockOf, backs, takeA, putA, e1, q1, a4]⟩
    by_cases q2 : f = 0
    · obtain ⟨d, k', a1, a2, a3, a4⟩ := leaf_eq (n := m + n - 1) hn ht hl (k := k + 1) (by omega) (by omega)
      rw [show m + n - 1 + 3 = m + n + 2 by omega] at a4
      exact ⟨d, k', a1.le hm hm, by omega, by omega, by simp [lockOf, backs, takeA, putA, e1, q1, q2, a4]⟩
    obtain ⟨m', rfl⟩ : ∃ m', m = m' + 1 := ⟨m - 1, by omega⟩
    have hm1 : ((m' + 1 : Nat) : Int) - 1 = (m' : Nat) := by omega
    have up : ∀ j, 1 ≤ j → j ≤ m' → TreeOk (call (m' + 1 + n + 2)) ns t j := fun j hj hj2 => by
      have := ih j (by omega) hj (by omega) (m' - j + n)
      rwa [show j + (m' - j + n) + 3 = m' + 1 + n + 2 by omega] at this
    obtain ⟨M, hM⟩ : ∃ M : Int, M = ((m' + 1 : Nat) : Int) := ⟨_, rfl⟩
    have hMI : KR.I ((m' + 1 : Nat) : Int) = .val (.int M) := by rw [hM]
    rw [hMI]
    rw [← hM] at q1 hm1
    by_cases q3 : f < 4
    · obtain ⟨w, hw, ew⟩ := at_one (z := f - 1) (by omega) (by omega)
      obtain ⟨d, k', a1, a2, a3, a4⟩ := up m' (by omega) (Nat.le_refl _) (k + 1) (by omega) (by omega)
      refine ⟨_, k', tr_one hw a1, by omega, by omega, ?_⟩
      simp [lockOf, backs, takeA, putA, e1, q1, q2, q3, ew, hm1, a4]
    by_cases q4 : f < 7
    · obtain ⟨w, mm, hw, ew, em⟩ := at_num (z := f - 4) (by omega) (by omega)
      have hmm : 0 < mm := by omega
      obtain ⟨j, j0, j1, e2⟩ := take_eq (n := m' + 1 + n) (k := k + 1) (m := mm) ht hl (by omega) (by omega) hmm
      obtain ⟨d, k', a1, a2, a3, a4⟩ := up m' (by omega) (Nat.le_refl _) (k + 1 + 1) (by omega) (by omega)
      obtain ⟨jn, hjn⟩ : ∃ jn : Nat, 1 + j = (jn : Int) := ⟨(1 + j).toNat, by omega⟩
      refine ⟨_, k', tr_num (w := w) (j := jn) (hw.elim (fun h => .inl ⟨h.1, by have := h.2; omega, by have := h.2; omega⟩) fun h => .inr ⟨h.1, by have := h.2; omega, by have := h.2; omega⟩) a1, by omega, by omega, ?_⟩
      simp [lockOf, backs, takeA, putA, e1, q1, q2, q3, q4, ew, em, e2, hm1, a4, hjn]
    by_cases q5 : f = 7
    · obtain ⟨i, i0, i1, e2⟩ := take_eq (n := m' + 1 + n) (k := k + 1) (m := 2) ht hl (by omega) (by omega) (by decide)
      obtain ⟨j, j0, j1, e3⟩ := take_eq (n := m' + 1 + n) (k := k + 1 + 1) (m := 2 + i) ht hl (by omega) (by omega) (by omega)
      obtain ⟨d, k', a1, a2, a3, a4⟩ := up m' (by omega) (Nat.le_refl _) (k + 1 + 1 + 1) (by omega) (by omega)
      obtain ⟨jn, rfl⟩ : ∃ jn : Nat, j = (jn : Int) := ⟨j.toNat, by omega⟩
      obtain ⟨iN, hin⟩ : ∃ iN : Nat, 2 + i = (iN : Int) := ⟨(2 + i).toNat, by omega⟩
      rw [hin] at e3 j1
      refine ⟨_, k', tr_circle (i := iN) (j := jn) (by omega) (by omega) a1, by omega, by omega, ?_⟩
      simp [lockOf, backs, takeA, putA, e1, q1, q2, q3, q4, q5, e2, e3, hm1, a4, hin]
    by_cases q6 : f < 10 ∧ 3 < M
    · obtain ⟨q6, q7⟩ := q6
      obtain ⟨d, e, g, k', a1, a2, a3, a4, a5, a6⟩ := kids_eq (cc := call (m' + 1 + n + 2)) (ns := ns) (t := t) (m := m' + 1) (j := m' / 3) (up _ (by omega) (by omega)) (by simp) (by omega) (k := k + 1) (by omega) (by omega) (v3 := some (KR.I f)) (v4 := none) (v5 := none) (v6 := none) (v7 := none)
      refine ⟨_, k', (tr_if (a1.le (m' := m') (by omega) (Nat.le_refl _)) (a2.le (m' := m') (by omega) (Nat.le_refl _)) (a3.le (m' := m') (by omega) (Nat.le_refl _))).le (Nat.le_refl _) (by omega), by omega, by omega, ?_⟩
      have a6' : lcomp [8] (icl rng1 (acons (KR.ret (.int 3)) (KR.ret []))) (gnm 8) (KR.ret true) (EK (call (m' + 1 + n + 2))) [some (St t (k + 1)), some (NS ns), some (.val (.int M)), some (KR.I f), none, none, none, none, none] = some (.ok (.olst [d, e, g]), [some (St t k'), some (NS ns), some (.val (.int M)), some (KR.I f), none, none, none, none, none]) := by rw [hM]; exact a6
      have i2 : atI [d, e, g] 2 = some g := rfl
      generalize lcomp _ _ _ _ _ = Z at a6' ⊢
      simp [lockOf, backs, takeA, putA, e1, q1, q2, q3, q4, q5, q6, q7, a6', i2]
    have q6' : (decide (f < 10) && decide (3 < M)) = false := by
      by_cases z : f < 10
      · simp [z]; omega
      · simp [z]
    by_cases q8 : M < 3
    · obtain ⟨d, k', a1, a2, a3, a4⟩ := leaf_eq (n := m' + 1 + n - 1) hn ht hl (k := k + 1) (by omega) (by omega)
      rw [show m' + 1 + n - 1 + 3 = m' + 1 + n + 2 by omega] at a4
      have q9 : ¬ (3 < M) := by omega
      refine ⟨_, k', tr_one (.inl rfl) (a1.le (m' := m') (q' := m') (by omega) (by omega)), by omega, by omega, ?_⟩
      by_cases z : f < 10
      · simp [lockOf, backs, takeA, putA, e1, q1, q2, q3, q4, q5, z, q9, q8, a4]
      · simp [lockOf, backs, takeA, putA, e1, q1, q2, q3, q4, q5, z, q8, a4]
    · obtain ⟨j, j0, j1, e2⟩ := take_eq (n := m' + 1 + n) (k := k + 1) (m := M - 2) ht hl (by omega) (by omega) (by omega)
      obtain ⟨w, hw, ew⟩ := at_two (z := f % 8) (Int.emod_nonneg _ (by decide)) (Int.emod_lt_of_pos _ (by decide))
      obtain ⟨jn, hjn⟩ : ∃ jn : Nat, 1 + j = (jn : Int) := ⟨(1 + j).toNat, by omega⟩
      obtain ⟨d, k', a1, a2, a3, a4⟩ := up jn (by omega) (by omega) (k + 1 + 1) (by omega) (by omega)
      obtain ⟨e, k2, b1, b2, b3, b4⟩ := up (m' - jn) (by omega) (by omega) k' (by omega) (by omega)
      have hs : M - 1 - (jn : Int) = ((m' - jn : Nat) : Int) := by omega
      have g8 : gmod (.int f) (.int 8) = some (.int (f % 8)) := gmod_pos (by decide)
      refine ⟨_, k2, (tr_two hw (a1.le (m' := m') (by omega) (Nat.le_refl _)) (b1.le (m' := m') (by omega) (Nat.le_refl _))).le (Nat.le_refl _) (by omega), by omega, by omega, ?_⟩
      rw [← hs] at b4
      generalize f % 8 = f8 at *
      by_cases z : f < 10
      · have z2 : ¬ 3 < M := fun h => q6 ⟨z, h⟩
        simp [lockOf, backs, takeA, putA, e1, q1, q2, q3, q4, q5, z, z2, q8, e2, hjn, g8, ew, a4, b4]
      · simp [lockOf, backs, takeA, putA, e1, q1, q2, q3, q4, q5, z, q8, e2, hjn, g8, ew, a4, b4]
end My

set_option Elab.async false
set_option linter.all false
set_option maxRecDepth 100000
namespace My
open PySem L2 KR
/-! ### what the reader finds stands there -/
theorem cut1 {X : List Nat} (hX : X.length ≤ 10000000) {i : Nat} (hi : i ≤ X.length) : gsl (some (i : Int)) (some ((i : Int) + 1)) (.str (S' X)) = some (.str (S' ((X.drop i).take 1))) := by
  cases hd : X.drop i with
  | cons c r => rw [sign_at hX hd hi]; rfl
  | nil =>
    unfold gsl
    dsimp only
    rw [S_len, if_pos (by rw [size_line]; omega)]
    have e : (S' X).cps.toList = X := by simp [S']
    unfold cutS
    have e2 := HT.sIx_nat X.length X.length (i + 1)
    rw [show ((i + 1 : Nat) : Int) = (i : Int) + 1 from rfl] at e2
    rw [e, S_len, HT.sIx_nat, e2, Nat.min_eq_left hi, hd]
    simp [S']
theorem turn_sign {cc : Nat → Cl} {X : List Nat} (hX : X.length ≤ 10000000) {i : Nat} (hi : i ≤ X.length) {c : Nat} (hn : ¬ (X.drop i).take 1 = [c]) {names : List Str} {ps : List D} {kd : D} {v3 v4 v8 : Option RV} :
    BR cc [] [some (Tx X), some (KR.I i), some (NS names), v3, v4, some (.olst ps), some (.val (.str (S' [c]))), some (.val kd), v8] = some (.ok (.ret (.val .non)), [some (Tx X), some (KR.I i), some (NS names), v3, v4, some (.olst ps), some (.val (.str (S' [c]))), some (.val kd), v8]) := by
  have s1 := cut1 hX hi
  have hn' : ¬ S' ((X.drop i).take 1) = S' [c] := fun e => hn (S_inj.mp e)
  generalize (X.drop i).take 1 = s at s1 hn'
  simp [asI, s1, hn']
/-- what an argument's reader tells -/
def ArgR (names : List Str) (T : D → List Nat → Bool → Int → Prop) (X : List Nat) (kd : Str) (ps : List D) (j : Nat) (R : D) : Prop :=
  R = .non ∨ ∃ d t, R = .tup [d, .int ((j + t.length : Nat) : Int)] ∧ (∃ r, X.drop j = t ++ r) ∧
    ((kd = "question" ∧ ∃ b p, T d t b p) ∨ (kd = "name" ∧ ∃ x, x ∈ names ∧ (∀ c ∈ cp x, letter c) ∧ d = .str x ∧ t = cp x) ∨ (kd ≠ "question" ∧ kd ≠ "name" ∧ ∃ al jj, allow kd ps = some al ∧ 48 + jj ∈ al ∧ jj ≤ 3 ∧ d = .int (jj : Nat) ∧ t = [48 + jj]))
/-- what may be asked for -/
def V : List D → List D → Prop
  | _, [] => True
  | ps, .str k :: ks => (k = "question" ∧ ∀ d, V (ps ++ [d]) ks) ∨ (k = "name" ∧ ks = []) ∨ (k ≠ "question" ∧ k ≠ "name" ∧ ∃ al, allow k ps = some al ∧ (∀ c ∈ al, ∃ j, j ≤ 3 ∧ c = 48 + j) ∧ ∀ j : Nat, 48 + j ∈ al → V (ps ++ [.int j]) ks)
  | _, _ :: _ => False
def ArgOk (cc : Nat → Cl) (names : List Str) (T : D → List Nat → Bool → Int → Prop) (X : List Nat) (j0 : Nat) : Prop := ∀ (kd : Str) (ps : List D) (ks : List D) (j : Nat), V ps (.str kd :: ks) → j ≤ X.length → j0 ≤ j →
  ∃ R, cc 1 [.val (.str kd), Tx X, KR.I j, NS names, .olst ps] = some (.ok (.val R), [.val (.str kd), Tx X, KR.I j, NS names, .olst ps]) ∧ ArgR names T X kd ps j R
theorem loop_sound {cc : Nat → Cl} {names : List Str} {T : D → List Nat → Bool → Int → Prop} {X : List Nat} (hX : X.length ≤ 10000000) {j0 : Nat} (hA : ArgOk cc names T X j0) {v3 v4 : Option RV} : ∀ (ks : List D) (ps : List D) (i c : Nat) (v7 v8 : Option RV), V ps ks → i ≤ X.length → j0 ≤ i + 1 → ps.length + ks.length ≤ 50 →
    ∃ ρ', forL (gnm 7) (BR cc) ks [] [some (Tx X), some (KR.I i), some (NS names), v3, v4, some (.olst ps), some (.val (.str (S' [c]))), v7, v8] = some (.ok (.ret (.val .non)), ρ') ∨
      ∃ (i' : Nat) (ds : List D) (ts : List (List Nat)) (b nm : Bool) (p : Int) (v6' v7' v8' : Option RV), forL (gnm 7) (BR cc) ks [] [some (Tx X), some (KR.I i), some (NS names), v3, v4, some (.olst ps), some (.val (.str (S' [c]))), v7, v8] =
        some (.ok .nx, [some (Tx X), some (KR.I i'), some (NS names), v3, v4, some (.olst (ps ++ ds)), v6', v7', v8']) ∧ As names T ps ks ds ts b nm p ∧ (nm = true ↔ D.str "name" ∈ ks) ∧ ts.length = ks.length ∧ X.drop i = sg c ts ++ X.drop i' ∧ i' = i + (sg c ts).length ∧ i' ≤ X.length
  | [], ps, i, c, v7, v8, _, hi, _, _ => ⟨[], .inr ⟨i, [], [], false, false, 0, _, _, _, by rw [forL_nil, List.append_nil], .nil ps, by simp, rfl, rfl, rfl, hi⟩⟩
  | .str k :: ks, ps, i, c, v7, v8, hv, hi, hj0, hl => by
    rw [List.length_cons] at hl
    by_cases hs : (X.drop i).take 1 = [c]
    · obtain ⟨r, hd⟩ : ∃ r, X.drop i = c :: r := by
        cases h : X.drop i with
        | nil => rw [h] at hs; cases hs
        | cons a r => rw [h] at hs; cases hs; exact ⟨r, rfl⟩
      have hi1 : i + 1 ≤ X.length := adv_le (a := [c]) (b := r) (by simpa using hd) hi
      obtain ⟨R, e, hR⟩ := hA k ps ks (i + 1) hv hi1 hj0
      rcases hR with rfl | ⟨d, t, rfl, ⟨r2, hr2⟩, hk⟩
      · have tn := turn_no (v3 := v3) (v4 := v4) (v8 := v8) hX hd hi e
        exact ⟨_, .inl (forL_ret (ρ1 := [some (Tx X), some (KR.I i), some (NS names), v3, v4, some (.olst ps), some (.val (.str (S' [c]))), some (.val (.str k)), v8]) (by simp) tn)⟩
      · have tn := turn_ok (v3 := v3) (v4 := v4) (v8 := v8) hX hd hi (by omega) e
        rw [← comma] at tn
        have hi2 : i + 1 + t.length ≤ X.length := adv_le hr2 hi1
        have hv2 : V (ps ++ [d]) ks := by
          rcases hk with ⟨rfl, _⟩ | ⟨rfl, x, _, _, rfl, rfl⟩ | ⟨n1, n2, al, jj, ha, hm, _, rfl, _⟩
          · rcases hv with ⟨_, h⟩ | ⟨h, _⟩ | ⟨h, _⟩
            · exact h d
            · exact absurd h.symm qn
            · exact absurd rfl h
          · rcases hv with ⟨h, _⟩ | ⟨_, h⟩ | ⟨_, h, _⟩
            · exact absurd h qn
            · rw [h]; exact True.intro
            · exact absurd rfl h
          · rcases hv with ⟨h, _⟩ | ⟨h, _⟩ | ⟨_, _, al', ha', _, h⟩
            · exact absurd h n1
            · exact absurd h n2
            · rw [ha] at ha'; cases ha'; exact h jj hm
        obtain ⟨ρ', z⟩ := loop_sound hX hA (v3 := v3) (v4 := v4) ks (ps ++ [d]) (i + 1 + t.length) 44 (some (.val (.str k))) (some (.val (.tup [d, .int ((i + 1 + t.length : Nat) : Int)]))) hv2 hi2 (by omega) (by rw [List.length_append, List.length_singleton]; omega)
        have hst := forL_nx (g := gnm 7) (b := BR cc) (x := .str k) (xs := ks) (lk := []) (ρ := [some (Tx X), some (KR.I i), some (NS names), v3, v4, some (.olst ps), some (.val (.str (S' [c]))), v7, v8]) (ρ1 := [some (Tx X), some (KR.I i), some (NS names), v3, v4, some (.olst ps), some (.val (.str (S' [c]))), some (.val (.str k)), v8]) (by simp) tn
        rcases z with z | ⟨i', ds, ts, b, nm, p, v6', v7', v8', z, as, nmi, hlen, hdr, hi', hle⟩
        · exact ⟨ρ', .inl (by rw [hst]; exact z)⟩
        · have hsg : X.drop i = sg c (t :: ts) ++ X.drop i' := by
            have h1 : X.drop (i + 1) = t ++ X.drop (i + 1 + t.length) := by
              rw [hr2]
              rw [adv hr2]
            have h2 : X.drop i = c :: X.drop (i + 1) := by
              have := adv (X := X) (a := [c]) (b := r) (i := i) (by simpa using hd)
              rw [hd]
              simpa using this.symm
            rw [h2, h1, hdr]
            simp [sg]
          have hlen2 : i' = i + (sg c (t :: ts)).length := by rw [hi']; simp [sg]; omega
          have fin : ∀ b' nm' p', As names T ps (.str k :: ks) (d :: ds) (t :: ts) b' nm' p' → (nm' = true ↔ D.str "name" ∈ (D.str k :: ks)) → ∃ ρ', forL (gnm 7) (BR cc) (.str k :: ks) [] [some (Tx X), some (KR.I i), some (NS names), v3, v4, some (.olst ps), some (.val (.str (S' [c]))), v7, v8] = some (.ok (.ret (.val .non)), ρ') ∨
              ∃ (i' : Nat) (ds : List D) (ts : List (List Nat)) (b nm : Bool) (p : Int) (v6' v7' v8' : Option RV), forL (gnm 7) (BR cc) (.str k :: ks) [] [some (Tx X), some (KR.I i), some (NS names), v3, v4, some (.olst ps), some (.val (.str (S' [c]))), v7, v8] =
                some (.ok .nx, [some (Tx X), some (KR.I i'), some (NS names), v3, v4, some (.olst (ps ++ ds)), v6', v7', v8']) ∧ As names T ps (.str k :: ks) ds ts b nm p ∧ (nm = true ↔ D.str "name" ∈ (D.str k :: ks)) ∧ ts.length = (D.str k :: ks).length ∧ X.drop i = sg c ts ++ X.drop i' ∧ i' = i + (sg c ts).length ∧ i' ≤ X.length :=
            fun b' nm' p' ha hnm => ⟨ρ', .inr ⟨i', d :: ds, t :: ts, b', nm', p', v6', v7', v8', by rw [hst, z, List.append_assoc]; rfl, ha, hnm, by rw [List.length_cons, List.length_cons, hlen], hsg, hlen2, hle⟩⟩
          rcases hk with ⟨rfl, b1, p1, hT⟩ | ⟨rfl, x, hx, hw, rfl, rfl⟩ | ⟨n1, n2, al, jj, ha, hm, hj, rfl, rfl⟩
          · refine fin _ _ _ (.q hT as) (nmi.trans ⟨fun h => List.mem_cons_of_mem _ h, fun h => ?_⟩)
            rcases List.mem_cons.mp h with h | h
            · exact absurd (D.str.inj h) qn
            · exact h
          · have hk0 : ks = [] := by
              rcases hv with ⟨h, _⟩ | ⟨_, h⟩ | ⟨_, h, _⟩
              · exact absurd h qn
              · exact h
              · exact absurd rfl h
            subst hk0
            cases as
            exact fin _ _ _ (.name hx hw) (by simp)
          · refine fin _ _ _ (.dig n1 n2 ha hm hj as) (nmi.trans ⟨fun h => List.mem_cons_of_mem _ h, fun h => ?_⟩)
            rcases List.mem_cons.mp h with h | h
            · exact absurd (D.str.inj h).symm n2
            · exact h
    · have tn := turn_sign (cc := cc) (names := names) (ps := ps) (kd := .str k) (v3 := v3) (v4 := v4) (v8 := v8) hX hi hs
      exact ⟨_, .inl (forL_ret (ρ1 := [some (Tx X), some (KR.I i), some (NS names), v3, v4, some (.olst ps), some (.val (.str (S' [c]))), some (.val (.str k)), v8]) (by simp) tn)⟩
  | .non :: _, _, _, _, _, _, hv, _, _, _ => hv.elim
  | .bl _ :: _, _, _, _, _, _, hv, _, _, _ => hv.elim
  | .int _ :: _, _, _, _, _, _, hv, _, _, _ => hv.elim
  | .tup _ :: _, _, _, _, _, _, hv, _, _, _ => hv.elim
  | .lst _ :: _, _, _, _, _, _, hv, _, _, _ => hv.elim
  | .lsr _ :: _, _, _, _, _, _, hv, _, _, _ => hv.elim
end My

set_option Elab.async false
set_option linter.all false
set_option maxRecDepth 100000
namespace My
open PySem L2 KR
theorem lookup_pair {α : Type} {w : Str} : ∀ {l : List (Str × α)} {v : α}, l.lookup w = some v → (w, v) ∈ l
  | [], v, h => by cases h
  | (k, a) :: l, v, h => by
    rw [List.lookup_cons] at h
    by_cases q : w = k
    · subst q
      rw [show (w == w) = true from beq_self_eq_true w] at h
      cases h
      exact List.mem_cons_self
    · rw [show (w == k) = false from beq_eq_false_iff_ne.mpr q] at h
      exact List.mem_cons_of_mem _ (lookup_pair h)
theorem v_q {ps ks : List D} (h : ∀ d, V (ps ++ [d]) ks) : V ps (.str "question" :: ks) := .inl ⟨rfl, h⟩
theorem v_dig {ps ks : List D} {k : Str} {al : List Nat} (h1 : k ≠ "question") (h2 : k ≠ "name") (ha : allow k ps = some al) (hc : ∀ c ∈ al, 48 ≤ c ∧ c ≤ 51) (h : ∀ j : Nat, 48 + j ∈ al → V (ps ++ [.int j]) ks) : V ps (.str k :: ks) :=
  .inr (.inr ⟨h1, h2, al, ha, fun c hm => ⟨c - 48, by have := hc c hm; omega, by have := hc c hm; omega⟩, h⟩)
theorem shape_v {w : Str} {v : D} (h : tb_SHAPES.lookup w = some v) : ∃ ks, v = .tup ks ∧ ks ≠ [] ∧ ks.length ≤ 3 ∧ V [.str w] ks ∧ (D.str "name" ∈ ks ↔ w = "is") := by
  have hm := lookup_pair h
  have e : tb_SHAPES = ([("is", .tup [.str "name"]), ("less", .tup [.str "question", .str "question"]), ("same", .tup [.str "question", .str "question"]), ("if", .tup [.str "question", .str "question", .str "question"]), ("last", .tup [.str "question"]), ("first", .tup [.str "question"]), ("before", .tup [.str "question"]), ("great", .tup [.str "two", .str "question"]), ("least", .tup [.str "two", .str "question"]), ("times", .tup [.str "three", .str "question"]), ("circle", .tup [.str "circle", .str "rest", .str "question"]), ("since", .tup [.str "question", .str "question"]), ("among", .tup [.str "question", .str "question"])] : List (Str × D)) := rfl
  rw [e] at hm
  have n0 : ∀ x : Str, x ≠ "name" → D.str "name" ≠ D.str x := fun x hx e => hx (D.str.inj e).symm
  have q1 : ∀ ps, V ps [.str "question"] := fun ps => v_q fun _ => True.intro
  have q2 : ∀ ps, V ps [.str "question", .str "question"] := fun ps => v_q fun _ => q1 _
  have q3 : ∀ ps, V ps [.str "question", .str "question", .str "question"] := fun ps => v_q fun _ => q2 _
  have d2 : ∀ ps, V ps [.str "two", .str "question"] := fun ps => v_dig (al := cp "12") (by decide +kernel) (by decide +kernel) rfl (by decide +kernel) fun _ _ => q1 _
  have d3 : ∀ ps, V ps [.str "three", .str "question"] := fun ps => v_dig (al := cp "123") (by decide +kernel) (by decide +kernel) rfl (by decide +kernel) fun _ _ => q1 _
  have dc : ∀ x, V [x] [.str "circle", .str "rest", .str "question"] := fun x => v_dig (al := cp "23") (by decide +kernel) (by decide +kernel) rfl (by decide +kernel) fun j hj => by
    have : j = 2 ∨ j = 3 := by
      have h2 : 48 + j ∈ [50, 51] := by
        have : cp "23" = [50, 51] := by decide +kernel
        rwa [this] at hj
      simp at h2
      omega
    rcases this with rfl | rfl
    · exact v_dig (al := [48, 49]) (by decide +kernel) (by decide +kernel) rfl (by decide +kernel) fun _ _ => q1 _
    · exact v_dig (al := [48, 49, 50]) (by decide +kernel) (by decide +kernel) rfl (by decide +kernel) fun _ _ => q1 _
  have nq : D.str "name" ≠ D.str "question" := n0 _ (by decide +kernel)
  have nt : D.str "name" ≠ D.str "two" := n0 _ (by decide +kernel)
  have nth : D.str "name" ≠ D.str "three" := n0 _ (by decide +kernel)
  have nc : D.str "name" ≠ D.str "circle" := n0 _ (by decide +kernel)
  have nr : D.str "name" ≠ D.str "rest" := n0 _ (by decide +kernel)
  simp only [List.mem_cons, Prod.mk.injEq, List.not_mem_nil, or_false] at hm
  rcases hm with ⟨rfl, rfl⟩ | ⟨rfl, rfl⟩ | ⟨rfl, rfl⟩ | ⟨rfl, rfl⟩ | ⟨rfl, rfl⟩ | ⟨rfl, rfl⟩ | ⟨rfl, rfl⟩ | ⟨rfl, rfl⟩ | ⟨rfl, rfl⟩ | ⟨rfl, rfl⟩ | ⟨rfl, rfl⟩ | ⟨rfl, rfl⟩ | ⟨rfl, rfl⟩
  · exact ⟨_, rfl, by simp, by simp, .inr (.inl ⟨rfl, rfl⟩), by simp⟩
  · exact ⟨_, rfl, by simp, by simp, q2 _, ⟨fun h => by simp [nq] at h, fun h => absurd h (by decide +kernel)⟩⟩
  · exact ⟨_, rfl, by simp, by simp, q2 _, ⟨fun h => by simp [nq] at h, fun h => absurd h (by decide +kernel)⟩⟩
  · exact ⟨_, rfl, by simp, by simp, q3 _, ⟨fun h => by simp [nq] at h, fun h => absurd h (by decide +kernel)⟩⟩
  · exact ⟨_, rfl, by simp, by simp, q1 _, ⟨fun h => by simp [nq] at h, fun h => absurd h (by decide +kernel)⟩⟩
  · exact ⟨_, rfl, by simp, by simp, q1 _, ⟨fun h => by simp [nq] at h, fun h => absurd h (by decide +kernel)⟩⟩
  · exact ⟨_, rfl, by simp, by simp, q1 _, ⟨fun h => by simp [nq] at h, fun h => absurd h (by decide +kernel)⟩⟩
  · exact ⟨_, rfl, by simp, by simp, d2 _, ⟨fun h => by simp [nq, nt] at h, fun h => absurd h (by decide +kernel)⟩⟩
  · exact ⟨_, rfl, by simp, by simp, d2 _, ⟨fun h => by simp [nq, nt] at h, fun h => absurd h (by decide +kernel)⟩⟩
  · exact ⟨_, rfl, by simp, by simp, d3 _, ⟨fun h => by simp [nq, nth] at h, fun h => absurd h (by decide +kernel)⟩⟩
  · exact ⟨_, rfl, by simp, by simp, dc _, ⟨fun h => by simp [nq, nc, nr] at h, fun h => absurd h (by decide +kernel)⟩⟩
  · exact ⟨_, rfl, by simp, by simp, q2 _, ⟨fun h => by simp [nq] at h, fun h => absurd h (by decide +kernel)⟩⟩
  · exact ⟨_, rfl, by simp, by simp, q2 _, ⟨fun h => by simp [nq] at h, fun h => absurd h (by decide +kernel)⟩⟩
theorem word_of (X : List Nat) (i : Nat) : ∃ w r, X.drop i = w ++ r ∧ (∀ c ∈ w, letter c) ∧ Stop r := by
  refine ⟨(X.drop i).takeWhile (fun c => decide (letter c)), (X.drop i).dropWhile (fun c => decide (letter c)), (List.takeWhile_append_dropWhile).symm, fun c hc => ?_, ?_⟩
  · generalize X.drop i = l at hc
    induction l with
    | nil => cases hc
    | cons a l ih =>
      rw [List.takeWhile_cons] at hc
      by_cases h : letter a
      · rw [if_pos (by simpa using h)] at hc
        rcases List.mem_cons.mp hc with e | hc
        · rw [e]; exact h
        · exact ih hc
      · rw [if_neg (by simpa using h)] at hc
        cases hc
  · generalize X.drop i = l
    induction l with
    | nil => exact .inl rfl
    | cons a l ih =>
      rw [List.dropWhile_cons]
      by_cases h : letter a
      · rw [if_pos (by simpa using h)]; exact ih
      · rw [if_neg (by simpa using h)]; exact .inr ⟨a, l, rfl, h⟩
end My

set_option Elab.async false
set_option linter.all false
set_option maxRecDepth 100000
namespace My
open PySem L2 KR
theorem S_nil : S' [] = ("" : Str) := by decide +kernel
theorem arg_dig_no {k : Nat} {X : List Nat} (hX : X.length ≤ 10000000) {j : Nat} {names : List Str} {ps : List D} {kd : Str} {al : List Nat} (h1 : kd ≠ "question") (h2 : kd ≠ "name") (ha : allow kd ps = some al) (hj : j ≤ X.length) (hn : ∀ c r, X.drop j = c :: r → c ∉ al) :
    call (k + 1) 1 [.val (.str kd), Tx X, KR.I j, NS names, .olst ps] = some (.ok (.val .non), [.val (.str kd), Tx X, KR.I j, NS names, .olst ps]) := by
  obtain ⟨y, hy, e⟩ := allowed ha (ρ := [some (.val (.str kd)), some (Tx X), some (KR.I j), some (NS names), some (.olst ps), none, none]) rfl rfl
  have s1 := cut1 hX hj
  have e5 : sset 5 (val (ite' (tst (KR.bin geq (getv 0) (KR.ret (.str "rest")))) (cut (KR.ret (.str "012")) (KR.ret none) (par (ixv 4 (KR.ret (.int 1))))) (una (gitK tb_DIGITS) (getv 0)))) [4] [some (.val (.str kd)), some (Tx X), some (KR.I j), some (NS names), some (.olst ps), none, none] = some (.ok .nx, [some (.val (.str kd)), some (Tx X), some (KR.I j), some (NS names), some (.olst ps), some (.val (.str y)), none]) := by
    rw [sset_ap, sbnd_ap, val_ap, bnd_ap, e]
    simp
  rw [call]
  simp only [bodies]
  unfold runD b1
  generalize sset 5 _ = Z at e5 ⊢
  cases hd : X.drop j with
  | nil =>
    rw [hd] at s1
    have s1' : gsl (some (j : Int)) (some ((j : Int) + 1)) (.str (S' X)) = some (.str "") := by rw [s1, List.take_nil, S_nil]
    simp [h1, h2, lockOf, backs, e5, asI, s1']
  | cons c r =>
    rw [hd] at s1
    have s1' : gsl (some (j : Int)) (some ((j : Int) + 1)) (.str (S' X)) = some (.str (S' [c])) := s1
    have g1 := gin_S (c := c) (x := y)
    rw [show decide (c ∈ y.cps.toList) = false from decide_eq_false (by rw [show y.cps.toList = al from hy]; exact hn c r hd)] at g1
    simp [h1, h2, lockOf, backs, e5, asI, s1', S_ne, g1]
/-- what the reader tells -/
def RdR (T : D → List Nat → Bool → Int → Prop) (X : List Nat) (j : Nat) (R : D) : Prop := R = .non ∨ ∃ d t b p, R = .tup [d, .int ((j + t.length : Nat) : Int)] ∧ (∃ r, X.drop j = t ++ r) ∧ T d t b p
def RdS (cc : Nat → Cl) (names : List Str) (T : D → List Nat → Bool → Int → Prop) (X : List Nat) (j0 : Nat) : Prop := ∀ j : Nat, j ≤ X.length → j0 ≤ j → ∃ R, cc 2 [Tx X, KR.I j, NS names] = some (.ok (.val R), [Tx X, KR.I j, NS names]) ∧ RdR T X j R
theorem arg_sound {k : Nat} {X : List Nat} (hX : X.length ≤ 10000000) {names : List Str} {T : D → List Nat → Bool → Int → Prop} {j0 : Nat} (h : RdS (call (k + 1)) names T X j0) : ArgOk (call (k + 2)) names T X j0 := by
  intro kd ps ks j hv hj hj0
  rcases hv with ⟨rfl, _⟩ | ⟨rfl, _⟩ | ⟨h1, h2, al, ha, hal, _⟩
  · obtain ⟨R, e, hR⟩ := h j hj hj0
    refine ⟨R, arg_q e, ?_⟩
    rcases hR with rfl | ⟨d, t, b, p, rfl, hr, hT⟩
    · exact .inl rfl
    · exact .inr ⟨d, t, rfl, hr, .inl ⟨rfl, b, p, hT⟩⟩
  · obtain ⟨w, r, hd, hw, hr⟩ := word_of X j
    have hc : cp (S' w) = w := by simp [S']
    have e := arg_name (k := k) (names := names) (ps := ps) (x := S' w) hX (by rw [hc]; exact hd) hj (by rw [hc]; exact hw) hr
    rw [hc] at e
    by_cases q : S' w ∈ names
    · rw [if_pos q] at e
      exact ⟨_, e, .inr ⟨_, w, rfl, ⟨r, hd⟩, .inr (.inl ⟨rfl, S' w, q, by rw [hc]; exact hw, rfl, hc.symm⟩)⟩⟩
    · rw [if_neg q] at e
      exact ⟨_, e, .inl rfl⟩
  · by_cases q : ∃ c r, X.drop j = c :: r ∧ c ∈ al
    · obtain ⟨c, r, hd, hc⟩ := q
      obtain ⟨jj, h3, rfl⟩ := hal c hc
      have e := arg_dig (k := k + 1) (names := names) (ps := ps) hX h1 h2 ha hc h3 hd hj
      exact ⟨_, e, .inr ⟨_, [48 + jj], rfl, ⟨r, hd⟩, .inr (.inr ⟨h1, h2, al, jj, ha, hc, h3, rfl, rfl⟩)⟩⟩
    · exact ⟨_, arg_dig_no (k := k + 1) (names := names) (ps := ps) hX h1 h2 ha hj (fun c r hd hc => q ⟨c, r, hd, hc⟩), .inl rfl⟩
theorem cnt_drop {X : List Nat} {i j : Nat} (h : i ≤ j) : (X.drop j).count 40 ≤ (X.drop i).count 40 := by
  have : X.drop j = (X.drop i).drop (j - i) := by rw [List.drop_drop]; congr 1; omega
  rw [this]
  exact (List.drop_sublist _ _).count_le _
end My

set_option Elab.async false
set_option linter.all false
set_option maxRecDepth 100000
namespace My
open PySem L2 KR
theorem read_at_sound {X : List Nat} (hX : X.length ≤ 10000000) {names : List Str} : ∀ (m n i : Nat), i ≤ X.length → (X.drop i).count 40 < m → ∃ R, call (2 * m + n + 1) 2 [Tx X, KR.I i, NS names] = some (.ok (.val R), [Tx X, KR.I i, NS names]) ∧ RdR (Tg names m) X i R := by
  intro m
  induction m with
  | zero => intro n i hi h; omega
  | succ m ih =>
    intro n i hi hc
    rw [show 2 * (m + 1) + n + 1 = (2 * m + n + 2) + 1 by omega, call]
    obtain ⟨w, r, hd, hl, hr⟩ := word_of X i
    have e1 := word_end_eq (n := 2 * m + n + 1) hX hd hi hl hr
    have c1 := cut_at hX hd hi
    have hcp : cp (S' w) = w := by simp [S']
    have hd2 := adv hd
    have hi2 := adv_le hd hi
    obtain ⟨E, hE⟩ : ∃ E : Nat, E = i + w.length := ⟨_, rfl⟩
    rw [← hE] at e1 c1 hd2 hi2
    have g := gin_strs (x := S' w) (ys := ["now", "nothing"])
    simp only [List.map_cons, List.map_nil] at g
    simp only [bodies]
    by_cases q0 : S' w ∈ (["now", "nothing"] : List Str)
    · rw [decide_eq_true q0] at g
      refine ⟨.tup [.tup [.str (S' w)], .int (E : Nat)], ?_, .inr ⟨.tup [.str (S' w)], w, false, 1, by rw [hE], ⟨r, hd⟩, .inl ⟨S' w, by simpa using q0, rfl, hcp.symm, rfl, rfl⟩⟩⟩
      unfold runD b2
      simp [lockOf, backs, takeA, putA, e1, asI, c1, g]
    · rw [decide_eq_false q0] at g
      cases hs : tb_SHAPES.lookup (S' w) with
      | none =>
        have g2 : gninK tb_SHAPES (.str (S' w)) = some (.bl true) := by
          show some (D.bl (!(tb_SHAPES.lookup (S' w)).isSome)) = _
          rw [hs]
          rfl
        refine ⟨.non, ?_, .inl rfl⟩
        unfold runD b2
        simp [lockOf, backs, takeA, putA, e1, asI, c1, g, g2]
      | some v =>
        obtain ⟨ks, rfl, k0, k3, kv, kn⟩ := shape_v hs
        have g2 : gninK tb_SHAPES (.str (S' w)) = some (.bl false) := by
          show some (D.bl (!(tb_SHAPES.lookup (S' w)).isSome)) = _
          rw [hs]
          rfl
        have g3 : gitK tb_SHAPES (.str (S' w)) = some (.tup ks) := hs
        have key : ∃ ρ', forL (gnm 7) (BR (call (2 * m + n + 2))) ks [] [some (Tx X), some (KR.I E), some (NS names), some (KR.I E), some (.val (.str (S' w))), some (.olst [.str (S' w)]), some (.val (.str (S' [40]))), none, none] = some (.ok (.ret (.val .non)), ρ') ∨
            ∃ (i' : Nat) (ds : List D) (ts : List (List Nat)) (b nm : Bool) (p : Int) (v6' v7' v8' : Option RV), forL (gnm 7) (BR (call (2 * m + n + 2))) ks [] [some (Tx X), some (KR.I E), some (NS names), some (KR.I E), some (.val (.str (S' w))), some (.olst [.str (S' w)]), some (.val (.str (S' [40]))), none, none] =
              some (.ok .nx, [some (Tx X), some (KR.I i'), some (NS names), some (KR.I E), some (.val (.str (S' w))), some (.olst ([.str (S' w)] ++ ds)), v6', v7', v8']) ∧ As names (Tg names m) [.str (S' w)] ks ds ts b nm p ∧ (nm = true ↔ D.str "name" ∈ ks) ∧ ts.length = ks.length ∧ X.drop E = sg 40 ts ++ X.drop i' ∧ i' = E + (sg 40 ts).length ∧ i' ≤ X.length := by
          by_cases q : (X.drop E).take 1 = [40]
          · have h40 : ∃ r2, X.drop E = 40 :: r2 := by
              cases h : X.drop E with
              | nil => rw [h] at q; cases q
              | cons a r2 => rw [h] at q; cases q; exact ⟨r2, rfl⟩
            obtain ⟨r2, h40⟩ := h40
            have hnext : X.drop (E + 1) = r2 := by
              have := adv (X := X) (a := [40]) (b := r2) (i := E) (by simpa using h40)
              simpa using this
            have hcE : (X.drop E).count 40 ≤ (X.drop i).count 40 := cnt_drop (by omega)
            have hc1 : (X.drop (E + 1)).count 40 < m := by
              rw [h40, List.count_cons_self] at hcE
              rw [hnext]
              omega
            have hA : ArgOk (call (2 * m + n + 2)) names (Tg names m) X (E + 1) := arg_sound (k := 2 * m + n) hX fun j hj hj0 => by
              have := cnt_drop (X := X) hj0
              exact ih n j hj (by omega)
            exact loop_sound hX hA ks [.str (S' w)] E 40 none none kv hi2 (Nat.le_refl _) (by rw [List.length_singleton]; omega)
          · cases ks with
            | nil => exact absurd rfl k0
            | cons kd ks =>
              have tn := turn_sign (cc := call (2 * m + n + 2)) (names := names) (ps := [.str (S' w)]) (kd := kd) (v3 := some (KR.I E)) (v4 := some (.val (.str (S' w)))) (v8 := none) hX hi2 q
              exact ⟨_, .inl (forL_ret (ρ1 := [some (Tx X), some (KR.I E), some (NS names), some (KR.I E), some (.val (.str (S' w))), some (.olst [.str (S' w)]), some (.val (.str (S' [40]))), some (.val kd), none]) (by simp) tn)⟩
        obtain ⟨ρ', z | ⟨i', ds, ts, b, nm, p, v6, v7, v8, z, as, nmi, hlen, hdr, hi', hle⟩⟩ := key
        · refine ⟨.non, ?_, .inl rfl⟩
          unfold runD b2
          simp [lockOf, backs, takeA, putA, e1, asI, c1, g, g2, g3, lpar, z]
        · have s3 := cut1 hX hle
          by_cases q : (X.drop i').take 1 = [41]
          · rw [q] at s3
            have h41 : ∃ r2, X.drop i' = 41 :: r2 := by
              cases h : X.drop i' with
              | nil => rw [h] at q; cases q
              | cons a r2 => rw [h] at q; cases q; exact ⟨r2, rfl⟩
            obtain ⟨r2, h41⟩ := h41
            have eG : i + (w ++ (sg 40 ts ++ [41])).length = i' + 1 := by rw [hi', hE]; simp; omega
            refine ⟨.tup [.tup (.str (S' w) :: ds), .int ((i' : Int) + 1)], ?_, .inr ⟨.tup (.str (S' w) :: ds), w ++ (sg 40 ts ++ [41]), b, 1 + p, by rw [eG]; rfl, ⟨r2, ?_⟩, .inr ⟨S' w, ks, ds, ts, b, p, hs, ?_, by omega, ?_, rfl, by rw [hcp], rfl, rfl⟩⟩⟩
            · unfold runD b2
              simp [lockOf, backs, takeA, putA, e1, asI, c1, g, g2, g3, lpar, z, s3, rpar]
            · rw [hd]
              have : r = sg 40 ts ++ 41 :: r2 := by rw [← hd2, hdr, h41]
              rw [this]
              simp
            · intro h
              rw [h] at hlen
              exact k0 (List.eq_nil_of_length_eq_zero hlen.symm)
            · have : nm = decide (S' w = ("is" : Str)) := by
                have h2 := nmi.trans kn
                by_cases hh : S' w = ("is" : Str)
                · rw [decide_eq_true hh]; exact h2.mpr hh
                · rw [decide_eq_false hh]
                  cases nm with
                  | false => rfl
                  | true => exact absurd (h2.mp rfl) hh
              rw [← this]
              exact as
          · refine ⟨.non, ?_, .inl rfl⟩
            have hn' : ¬ S' ((X.drop i').take 1) = S' [41] := fun e => q (S_inj.mp e)
            generalize (X.drop i').take 1 = s at s3 hn'
            unfold runD b2
            simp [lockOf, backs, takeA, putA, e1, asI, c1, g, g2, g3, lpar, z, s3, rpar, hn']
end My

set_option Elab.async false
set_option linter.all false
set_option maxRecDepth 100000
namespace My
open PySem L2 KR
theorem read_question_sound {t : List Nat} (hX : t.length ≤ 10000000) {names : List Str} {m n : Nat} (hc : t.count 40 < m) : ∃ R, call (2 * m + n + 2) 3 [Tx t, NS names] = some (.ok (.val R), [Tx t, NS names]) ∧ (R = .non ∨ ∃ b p, Tg names m R t b p) := by
  obtain ⟨R, e, hR⟩ := read_at_sound hX (names := names) m n 0 (Nat.zero_le _) hc
  have e' : call (2 * m + n + 1) 2 [Tx t, .val (.int 0), NS names] = _ := e
  have g := glen_S (l := t) (by omega)
  rw [show 2 * m + n + 2 = (2 * m + n + 1) + 1 from rfl, call]
  simp only [bodies]
  rcases hR with rfl | ⟨d, u, b, p, rfl, ⟨r, hr⟩, hT⟩
  · refine ⟨.non, ?_, .inl rfl⟩
    have n1 : gisN .non = some (.bl true) := rfl
    unfold runD b3
    simp [lockOf, backs, takeA, putA, e', n1]
  · have n1 : ∀ z, gisN (.tup [d, .int z]) = some (.bl false) := fun _ => rfl
    rw [Nat.zero_add] at e'
    have hr' : t = u ++ r := by simpa using hr
    by_cases q : u.length = t.length
    · have hr0 : r = [] := by
        have := congrArg List.length hr'
        rw [List.length_append] at this
        exact List.eq_nil_of_length_eq_zero (by omega)
      have hu : u = t := by rw [hr', hr0, List.append_nil]
      refine ⟨d, ?_, .inr ⟨b, p, by rw [← hu]; exact hT⟩⟩
      have q' : (u.length : Int) = (t.length : Int) := by omega
      unfold runD b3
      simp [lockOf, backs, takeA, putA, e', n1, g, q']
    · refine ⟨.non, ?_, .inl rfl⟩
      have q' : ¬ (u.length : Int) = (t.length : Int) := by omega
      unfold runD b3
      simp [lockOf, backs, takeA, putA, e', n1, g, q']
/-! ### the split at outer commas, as a function -/
def scan : List Nat → Nat → List (List Nat) → List Nat → Option (Nat × List (List Nat) × List Nat)
  | [], k, P, s => some (k, P, s)
  | c :: u, k, P, s => if c = 40 then scan u (k + 1) P (s ++ [c]) else if c = 41 then (if k = 0 then none else scan u (k - 1) P (s ++ [c])) else if c = 44 ∧ k = 0 then scan u 0 (P ++ [s]) [] else scan u k P (s ++ [c])
def jn (P : List (List Nat)) (s : List Nat) : List Nat := (P.map fun x => x ++ [44]).flatten ++ s
theorem jn_app {P : List (List Nat)} {s u : List Nat} : jn P (s ++ u) = jn P s ++ u := by unfold jn; rw [List.append_assoc]
theorem jn_snoc {P : List (List Nat)} {s : List Nat} : jn (P ++ [s]) [] = jn P s ++ [44] := by simp [jn]
theorem scan_join : ∀ (u : List Nat) (k : Nat) (P : List (List Nat)) (s : List Nat) {k' : Nat} {P' : List (List Nat)} {s' : List Nat}, scan u k P s = some (k', P', s') → jn P' s' = jn P s ++ u
  | [], k, P, s, k', P', s', h => by cases h; simp
  | c :: u, k, P, s, k', P', s', h => by
    unfold scan at h
    split at h
    · rw [scan_join u _ _ _ h, jn_app, List.append_assoc]; rfl
    · split at h
      · split at h
        · cases h
        · rw [scan_join u _ _ _ h, jn_app, List.append_assoc]; rfl
      · split at h
        · rename_i q
          rw [scan_join u _ _ _ h, jn_snoc, List.append_assoc, q.1]; rfl
        · rw [scan_join u _ _ _ h, jn_app, List.append_assoc]; rfl
/-- a text that a split passes over -/
def Bal (u : List Nat) : Prop := ∀ (rest : List Nat) (k : Nat) (P : List (List Nat)) (s : List Nat), scan (u ++ rest) k P s = scan rest k P (s ++ u)
theorem bal_plain : ∀ u : List Nat, (∀ c ∈ u, c ≠ 40 ∧ c ≠ 41 ∧ c ≠ 44) → Bal u
  | [], _, rest, k, P, s => by simp
  | c :: u, h, rest, k, P, s => by
    obtain ⟨h1, h2, h3⟩ := h c List.mem_cons_self
    rw [List.cons_append, scan, if_neg h1, if_neg h2, if_neg (fun q => h3 q.1), bal_plain u (fun c hc => h c (List.mem_cons_of_mem _ hc)) rest k P (s ++ [c]), List.append_assoc]
    rfl
theorem bal_sg : ∀ ts : List (List Nat), (∀ t ∈ ts, Bal t) → ∀ (rest : List Nat) (k : Nat) (P : List (List Nat)) (s : List Nat), scan (sg 44 ts ++ rest) (k + 1) P s = scan rest (k + 1) P (s ++ sg 44 ts)
  | [], _, rest, k, P, s => by simp [sg]
  | t :: ts, h, rest, k, P, s => by
    have e : sg 44 (t :: ts) ++ rest = 44 :: (t ++ (sg 44 ts ++ rest)) := by simp [sg]
    rw [e, scan, if_neg (by decide), if_neg (by decide), if_neg (by omega), h t List.mem_cons_self, bal_sg ts (fun t ht => h t (List.mem_cons_of_mem _ ht)) rest k P]
    simp [sg]
theorem bal_node {w : List Nat} {ts : List (List Nat)} (hw : ∀ c ∈ w, c ≠ 40 ∧ c ≠ 41 ∧ c ≠ 44) (h0 : ts ≠ []) (h : ∀ t ∈ ts, Bal t) : Bal (w ++ (sg 40 ts ++ [41])) := by
  intro rest k P s
  cases ts with
  | nil => exact absurd rfl h0
  | cons t ts =>
    have e : w ++ (sg 40 (t :: ts) ++ [41]) ++ rest = w ++ (40 :: (t ++ (sg 44 ts ++ (41 :: rest)))) := by simp [sg]
    rw [e, bal_plain w hw, scan, if_pos rfl, h t List.mem_cons_self, bal_sg ts (fun t ht => h t (List.mem_cons_of_mem _ ht)), scan, if_neg (by decide), if_pos rfl, if_neg (by omega), Nat.add_sub_cancel]
    simp [sg]
theorem scan_top : ∀ (ts : List (List Nat)), (∀ t ∈ ts, Bal t) → ∀ (P : List (List Nat)) (s : List Nat), ∃ P' s', scan (sg 44 ts) 0 P s = some (0, P', s') ∧ P' ++ [s'] = P ++ s :: ts
  | [], _, P, s => ⟨P, s, rfl, rfl⟩
  | t :: ts, h, P, s => by
    obtain ⟨P', s', e, e2⟩ := scan_top ts (fun t ht => h t (List.mem_cons_of_mem _ ht)) (P ++ [s]) t
    refine ⟨P', s', ?_, by rw [e2, List.append_assoc]; rfl⟩
    have e1 : sg 44 (t :: ts) = 44 :: (t ++ sg 44 ts) := by simp [sg]
    rw [e1, scan, if_neg (by decide), if_neg (by decide), if_pos ⟨rfl, rfl⟩, h t List.mem_cons_self, List.nil_append]
    exact e
end My

set_option Elab.async false
set_option linter.all false
set_option maxRecDepth 100000
namespace My
open PySem L2 KR
/-! ### where a bracket stands -/
theorem at_iff {X : List Nat} {i : Nat} : PySem.StrLaws.At (S' X) ⟨#[40]⟩ (S' X).length i ↔ X[i]? = some 40 := by
  have h := PySem.StrLaws.subAt_one (S' X) 40 i
  have e : (S' X).cps.toList = X := by simp [S']
  rw [e] at h
  exact h
theorem find_no {X : List Nat} (h : 40 ∉ X) : Txt.find (S' X) ("(" : Str) = -1 := by
  rw [lpar]
  unfold Txt.find
  rcases PySem.StrLaws.occ_head (S' X) ⟨#[40]⟩ 1 (Nat.le_refl _) with ⟨e, _⟩ | ⟨i, r, e, ha, _⟩
  · rw [show (S' [40] : Str) = ⟨#[40]⟩ from rfl, e]
  · exact absurd (List.mem_of_getElem? (at_iff.mp ha)) h
theorem find_at {w r : List Nat} (h : 40 ∉ w) : Txt.find (S' (w ++ 40 :: r)) ("(" : Str) = (w.length : Int) := by
  rw [lpar]
  unfold Txt.find
  have hw : (w ++ 40 :: r)[w.length]? = some 40 := by simp
  rcases PySem.StrLaws.occ_head (S' (w ++ 40 :: r)) ⟨#[40]⟩ 1 (Nat.le_refl _) with ⟨e, hn⟩ | ⟨i, t, e, ha, hk⟩
  · exact absurd (at_iff.mpr hw) (hn _)
  · rw [show (S' [40] : Str) = ⟨#[40]⟩ from rfl, e]
    have hi := at_iff.mp ha
    have h1 : ¬ i < w.length := fun q => by
      rw [List.getElem?_append_left q] at hi
      exact h (List.mem_of_getElem? hi)
    have h2 : ¬ w.length < i := fun q => hk _ q (at_iff.mpr hw)
    have : i = w.length := by omega
    rw [this]
/-! ### the split runs as the function says -/
abbrev BS : S := (seq (sif (tst (KR.bin geq (getv 3) (KR.ret (.str "(")))) (sset 1 (val (KR.bin gadd (getv 1) (KR.ret (.int 1))))) skip)
  (seq (sif (tst (KR.bin geq (getv 3) (KR.ret (.str ")")))) (sset 1 (val (KR.bin gsub (getv 1) (KR.ret (.int 1))))) skip)
  (seq (sif (tst (KR.bin glt (getv 1) (KR.ret (.int 0)))) (sret (val (KR.ret .non))) skip)
  (sif (tand (tst (KR.bin geq (getv 3) (KR.ret (.str ",")))) (tst (KR.bin geq (getv 1) (KR.ret (.int 0))))) (sdo (apnd 2 (KR.ret (.str "")))) (seti 2 (una gneg (KR.ret (.int 1))) (KR.bin gadd (ixv 2 (una gneg (KR.ret (.int 1)))) (getv 3)))))))
abbrev pcs (P : List (List Nat)) (s : List Nat) : List D := (P ++ [s]).map fun x => .str (S' x)
theorem ixN_last {n : Nat} : ixN (n + 1) (-1) = some n := by
  unfold ixN
  rw [if_neg (by omega)]
  rw [if_pos (by omega)]
  congr 1
  omega
theorem pcs_last {P : List (List Nat)} {s : List Nat} : atI (pcs P s) (-1) = some (.str (S' s)) := by
  unfold pcs
  rw [List.map_append]
  exact KR.atI_last
theorem pcs_set {P : List (List Nat)} {s u : List Nat} : (pcs P s).set P.length (.str (S' u)) = pcs P u := by
  unfold pcs
  rw [List.map_append, List.map_append]
  simp
theorem comma' : ("," : Str) = S' [44] := comma.symm
theorem put_last {c : Nat} {k : Int} {P : List (List Nat)} {s : List Nat} {T0 : RV} (hs : s.length ≤ 10000000) :
    seti 2 (una gneg (KR.ret (.int 1))) (KR.bin gadd (ixv 2 (una gneg (KR.ret (.int 1)))) (getv 3)) [] [some T0, some (KR.I k), some (.olst (pcs P s)), some (.val (.str (S' [c])))] = some (.ok .nx, [some T0, some (KR.I k), some (.olst (pcs P (s ++ [c]))), some (.val (.str (S' [c])))]) := by
  have g1 := pcs_last (P := P) (s := s)
  have g2 := gadd_S (a := s) (b := [c]) (by simp; omega)
  have g3 : ixN (pcs P s).length (-1) = some P.length := by
    have : (pcs P s).length = P.length + 1 := by simp [pcs]
    rw [this, ixN_last]
  have g4 := pcs_set (P := P) (s := s) (u := s ++ [c])
  have gn : gneg (.int 1) = some (.int (-1)) := rfl
  generalize pcs P s = L at g1 g3 g4 ⊢
  simp [gn, g1, g2, g3, g4]
theorem bs_open {k : Nat} {P : List (List Nat)} {s : List Nat} {T0 : RV} (hs : s.length ≤ 10000000) : BS [] [some T0, some (KR.I k), some (.olst (pcs P s)), some (.val (.str (S' [40])))] = some (.ok .nx, [some T0, some (KR.I ((k + 1 : Nat) : Int)), some (.olst (pcs P (s ++ [40]))), some (.val (.str (S' [40])))]) := by
  have pl := put_last (c := 40) (k := (k : Int) + 1) (P := P) (T0 := T0) hs
  have h0 : ¬ ((k : Int) + 1 < 0) := by omega
  unfold BS
  generalize seti 2 _ _ = Z at pl ⊢
  generalize pcs P s = L at pl ⊢
  simp [lpar, rpar, comma', S_inj, h0, pl]
theorem bs_close {k : Nat} {P : List (List Nat)} {s : List Nat} {T0 : RV} (hs : s.length ≤ 10000000) : BS [] [some T0, some (KR.I ((k + 1 : Nat) : Int)), some (.olst (pcs P s)), some (.val (.str (S' [41])))] = some (.ok .nx, [some T0, some (KR.I k), some (.olst (pcs P (s ++ [41]))), some (.val (.str (S' [41])))]) := by
  have pl := put_last (c := 41) (k := (k : Int)) (P := P) (T0 := T0) hs
  have h0 : ¬ ((k : Int) < 0) := by omega
  have h1 : ((k + 1 : Nat) : Int) - 1 = (k : Int) := by omega
  obtain ⟨K, hK⟩ : ∃ K : Int, K = ((k + 1 : Nat) : Int) := ⟨_, rfl⟩
  rw [← hK] at h1 ⊢
  unfold BS
  generalize seti 2 _ _ = Z at pl ⊢
  generalize pcs P s = L at pl ⊢
  simp [lpar, rpar, comma', S_inj, h0, h1, pl]
theorem bs_none {L : List D} {T0 : RV} : ∃ ρ, BS [] [some T0, some (KR.I (0 : Nat)), some (.olst L), some (.val (.str (S' [41])))] = some (.ok (.ret (.val .non)), ρ) := by
  refine ⟨[some T0, some (KR.I (-1)), some (.olst L), some (.val (.str (S' [41])))], ?_⟩
  unfold BS
  generalize seti 2 _ _ = Z
  simp [lpar, rpar, comma', S_inj]
theorem bs_comma {P : List (List Nat)} {s : List Nat} {T0 : RV} (hP : P.length ≤ 10000000) : BS [] [some T0, some (KR.I (0 : Nat)), some (.olst (pcs P s)), some (.val (.str (S' [44])))] = some (.ok .nx, [some T0, some (KR.I (0 : Nat)), some (.olst (pcs (P ++ [s]) [])), some (.val (.str (S' [44])))]) := by
  have hl : (pcs P s).length < 16777216 := by
    have : (pcs P s).length = P.length + 1 := by simp [pcs]
    omega
  have e : pcs (P ++ [s]) [] = pcs P s ++ [.str ""] := by
    unfold pcs
    rw [List.map_append, S_nil.symm]
    rfl
  rw [e]
  unfold BS
  generalize seti 2 _ _ = Z
  generalize pcs P s = L at hl ⊢
  simp [lpar, rpar, comma', S_inj, hl]
theorem bs_other {c k : Nat} {P : List (List Nat)} {s : List Nat} {T0 : RV} (hs : s.length ≤ 10000000) (h1 : c ≠ 40) (h2 : c ≠ 41) (h3 : ¬ (c = 44 ∧ k = 0)) : BS [] [some T0, some (KR.I k), some (.olst (pcs P s)), some (.val (.str (S' [c])))] = some (.ok .nx, [some T0, some (KR.I k), some (.olst (pcs P (s ++ [c]))), some (.val (.str (S' [c])))]) := by
  have pl := put_last (c := c) (k := (k : Int)) (P := P) (T0 := T0) hs
  have h0 : ¬ ((k : Int) < 0) := by omega
  unfold BS
  generalize seti 2 _ _ = Z at pl ⊢
  generalize pcs P s = L at pl ⊢
  generalize pcs P (s ++ [c]) = L2 at pl ⊢
  by_cases q : c = 44
  · have h5 : ¬ k = 0 := fun e => h3 ⟨q, e⟩
    have h4 : ¬ (k : Int) = 0 := by omega
    subst q
    simp [lpar, rpar, comma', S_inj, h0, h4, h5, pl]
  · simp [lpar, rpar, comma', S_inj, h0, h1, h2, q, pl]
end My

set_option Elab.async false
set_option linter.all false
set_option maxRecDepth 100000
namespace My
open PySem L2 KR
abbrev chs (u : List Nat) : List D := u.map fun c => .str (S' [c])
theorem split_for {T0 : RV} : ∀ (u : List Nat) (k : Nat) (P : List (List Nat)) (s : List Nat) (v3 : Option RV), s.length + u.length ≤ 10000000 → P.length + u.length ≤ 10000000 →
    (scan u k P s = none ∧ ∃ ρ, forL (gnm 3) BS (chs u) [] [some T0, some (KR.I k), some (.olst (pcs P s)), v3] = some (.ok (.ret (.val .non)), ρ)) ∨
    ∃ k' P' s' v3', scan u k P s = some (k', P', s') ∧ forL (gnm 3) BS (chs u) [] [some T0, some (KR.I k), some (.olst (pcs P s)), v3] = some (.ok .nx, [some T0, some (KR.I k'), some (.olst (pcs P' s')), v3'])
  | [], k, P, s, v3, _, _ => .inr ⟨k, P, s, v3, rfl, rfl⟩
  | c :: u, k, P, s, v3, h1, h2 => by
    rw [List.length_cons] at h1 h2
    have g : ∀ (K : Int) (L : List D), gnm 3 (.str (S' [c])) [] [some T0, some (KR.I K), some (.olst L), v3] = some [some T0, some (KR.I K), some (.olst L), some (.val (.str (S' [c])))] := fun K L => by simp
    show (scan (c :: u) k P s = none ∧ ∃ ρ, forL (gnm 3) BS (.str (S' [c]) :: chs u) [] _ = _) ∨ ∃ k' P' s' v3', scan (c :: u) k P s = some (k', P', s') ∧ forL (gnm 3) BS (.str (S' [c]) :: chs u) [] _ = _
    rw [scan]
    by_cases q1 : c = 40
    · subst q1
      rw [if_pos rfl, forL_nx (g k _) (bs_open (k := k) (P := P) (s := s) (T0 := T0) (by omega))]
      exact split_for u (k + 1) P (s ++ [40]) _ (by rw [List.length_append, List.length_singleton]; omega) (by omega)
    · rw [if_neg q1]
      by_cases q2 : c = 41
      · subst q2
        rw [if_pos rfl]
        cases k with
        | zero =>
          obtain ⟨ρ, e⟩ := bs_none (L := pcs P s) (T0 := T0)
          exact .inl ⟨rfl, ρ, forL_ret (g _ _) e⟩
        | succ k =>
          rw [if_neg (by omega), forL_nx (g ((k + 1 : Nat) : Int) _) (bs_close (k := k) (P := P) (s := s) (T0 := T0) (by omega))]
          exact split_for u k P (s ++ [41]) _ (by rw [List.length_append, List.length_singleton]; omega) (by omega)
      · rw [if_neg q2]
        by_cases q3 : c = 44 ∧ k = 0
        · obtain ⟨rfl, rfl⟩ := q3
          rw [if_pos ⟨rfl, rfl⟩, forL_nx (g _ _) (bs_comma (P := P) (s := s) (T0 := T0) (by omega))]
          exact split_for u 0 (P ++ [s]) [] _ (by rw [List.length_nil]; omega) (by rw [List.length_append, List.length_singleton]; omega)
        · rw [if_neg q3, forL_nx (g k _) (bs_other (k := k) (P := P) (s := s) (T0 := T0) (by omega) q1 q2 q3)]
          exact split_for u k P (s ++ [c]) _ (by rw [List.length_append, List.length_singleton]; omega) (by omega)
theorem b12_eq (cc : Nat → Cl) : b12 cc = seq (sset 1 (val (KR.ret (.int 0)))) (seq (sset 2 (dlst (acons (KR.ret (.str "")) (KR.ret [])))) (seq (sfor (gnm 3) (its (getv 0)) BS) (seq (sif (tst (KR.bin ggt (getv 1) (KR.ret (.int 0)))) (sret (val (KR.ret .non))) skip) (sret (val (getv 2)))))) := rfl
/-- the pieces, if it comes to them -/
def pieces (t : List Nat) : Option (List (List Nat)) := match scan t 0 [] [] with
  | some (0, P, s) => some (P ++ [s])
  | _ => none
def pieceD : Option (List (List Nat)) → D
  | none => .non
  | some ps => .lst (ps.map fun x => .str (S' x))
theorem split_ok {n : Nat} {t : List Nat} (ht : t.length ≤ 10000000) : call (n + 1) 12 [Tx t] = some (.ok (.val (pieceD (pieces t))), [Tx t]) := by
  rw [call]
  simp only [bodies]
  rw [b12_eq]
  have hi : its (getv 0) [some (Tx t), some (KR.I (0 : Nat)), some (.olst (pcs [] [])), none] = some (.ok (chs t), [some (Tx t), some (KR.I (0 : Nat)), some (.olst (pcs [] [])), none]) := by
    have e : itemsD (.str (S' t)) = some (chs t) := by
      show some ((S' t).cps.toList.map fun c => D.str ⟨#[c]⟩) = _
      have : (S' t).cps.toList = t := by simp [S']
      rw [this]
      rfl
    simp [e]
  have p0 : pcs [] [] = [D.str ""] := by show [D.str (S' [])] = _; rw [S_nil]
  unfold pieces
  rcases split_for (T0 := Tx t) t 0 [] [] none (by simpa using ht) (by simpa using ht) with ⟨e0, ρ, e⟩ | ⟨k', P', s', v3', e0, e⟩
  · rw [e0]
    rw [p0] at hi e
    generalize BS = B at e ⊢
    generalize chs t = C at hi e
    generalize its (getv 0) = Z at hi ⊢
    unfold runD
    have hi' : Z [some (Tx t), some (.val (.int 0)), some (.olst [D.str ""]), none] = _ := hi
    have e' : forL (gnm 3) B C [] [some (Tx t), some (.val (.int 0)), some (.olst [D.str ""]), none] = _ := e
    simp [lockOf, backs, hi', e', pieceD]
  · rw [e0]
    rw [p0] at hi e
    generalize BS = B at e ⊢
    generalize chs t = C at hi e
    generalize its (getv 0) = Z at hi ⊢
    have hi' : Z [some (Tx t), some (.val (.int 0)), some (.olst [D.str ""]), none] = _ := hi
    have e' : forL (gnm 3) B C [] [some (Tx t), some (.val (.int 0)), some (.olst [D.str ""]), none] = _ := e
    cases k' with
    | zero =>
      unfold runD
      show _ = some (Except.ok (RV.val (.lst (pcs P' s'))), _)
      generalize pcs P' s' = L at e' ⊢
      simp [lockOf, backs, hi', e']
    | succ k' =>
      have h0 : (0 : Int) < ((k' + 1 : Nat) : Int) := by omega
      unfold runD
      generalize pcs P' s' = L at e' ⊢
      generalize ((k' + 1 : Nat) : Int) = K at e' h0 ⊢
      simp [lockOf, backs, hi', e', h0, pieceD]
end My

set_option Elab.async false
set_option linter.all false
set_option maxRecDepth 100000
namespace My
open PySem L2 KR
abbrev PS' (ps : List (List Nat)) : D := .lst (ps.map fun x => .str (S' x))
theorem gnin_strs {x : Str} {ys : List Str} : gnin (.str x) (.tup (ys.map .str)) = some (.bl (!decide (x ∈ ys))) := by
  have h := gin_strs (x := x) (ys := ys)
  show (dinL (.str x) (ys.map .str)).map (fun b => D.bl (!b)) = _
  have h' : (dinL (.str x) (ys.map .str)).map D.bl = some (.bl (decide (x ∈ ys))) := h
  cases e : dinL (.str x) (ys.map .str) with
  | none => rw [e] at h'; cases h'
  | some b => rw [e] at h'; cases h'; rfl
theorem sign_mem {x : List Nat} {a : Str} {c : Nat} (ha : a = S' [c]) : S' x = a ↔ x = [c] := by rw [ha]; exact S_inj
theorem sg0 : ("0" : Str) = S' [48] := by decide +kernel
theorem sg1 : ("1" : Str) = S' [49] := by decide +kernel
theorem sg2 : ("2" : Str) = S' [50] := by decide +kernel
theorem sg3 : ("3" : Str) = S' [51] := by decide +kernel
theorem gnin_23 {x : List Nat} : gnin (.str (S' x)) (.tup [.str "2", .str "3"]) = some (.bl (!decide (x = [50] ∨ x = [51]))) := by
  have g := gnin_strs (x := S' x) (ys := ["2", "3"])
  have e : (S' x ∈ (["2", "3"] : List Str)) ↔ (x = [50] ∨ x = [51]) := by simp only [List.mem_cons, List.not_mem_nil, or_false, sg2, sg3, S_inj]
  rw [decide_eq_decide.mpr e] at g
  exact g
theorem gnin_012 {x : List Nat} : gnin (.str (S' x)) (.tup [.str "0", .str "1", .str "2"]) = some (.bl (!decide (x = [48] ∨ x = [49] ∨ x = [50]))) := by
  have g := gnin_strs (x := S' x) (ys := ["0", "1", "2"])
  have e : (S' x ∈ (["0", "1", "2"] : List Str)) ↔ (x = [48] ∨ x = [49] ∨ x = [50]) := by simp only [List.mem_cons, List.not_mem_nil, or_false, sg0, sg1, sg2, S_inj]
  rw [decide_eq_decide.mpr e] at g
  exact g
theorem gnin_12 {x : List Nat} : gnin (.str (S' x)) (.tup [.str "1", .str "2"]) = some (.bl (!decide (x = [49] ∨ x = [50]))) := by
  have g := gnin_strs (x := S' x) (ys := ["1", "2"])
  have e : (S' x ∈ (["1", "2"] : List Str)) ↔ (x = [49] ∨ x = [50]) := by simp only [List.mem_cons, List.not_mem_nil, or_false, sg1, sg2, S_inj]
  rw [decide_eq_decide.mpr e] at g
  exact g
theorem gnin_123 {x : List Nat} : gnin (.str (S' x)) (.tup [.str "1", .str "2", .str "3"]) = some (.bl (!decide (x = [49] ∨ x = [50] ∨ x = [51]))) := by
  have g := gnin_strs (x := S' x) (ys := ["1", "2", "3"])
  have e : (S' x ∈ (["1", "2", "3"] : List Str)) ↔ (x = [49] ∨ x = [50] ∨ x = [51]) := by simp only [List.mem_cons, List.not_mem_nil, or_false, sg1, sg2, sg3, S_inj]
  rw [decide_eq_decide.mpr e] at g
  exact g
/-- the numbers behind a word, if the pieces tell them -/
def numF (w : Str) (ps : List (List Nat)) : Option (List Int) :=
  if w = "circle" then (match ps with
    | [x, y, _] => if x = [50] ∧ (y = [48] ∨ y = [49]) ∨ x = [51] ∧ (y = [48] ∨ y = [49] ∨ y = [50]) then some [((x.headD 0 - 48 : Nat) : Int), ((y.headD 0 - 48 : Nat) : Int)] else none
    | _ => none)
  else match ps with
    | [x, _] => if x = [49] ∨ x = [50] ∨ (w = "times" ∧ x = [51]) then some [((x.headD 0 - 48 : Nat) : Int)] else none
    | _ => none
def numD (w : Str) (o : Option (List Int)) : D := match o with
  | none => .non
  | some js => .tup (.str w :: js.map .int)
theorem i0 : gint (.str (S' [48])) = some (.int 0) := int_sign (j := 0) (by decide)
theorem i1 : gint (.str (S' [49])) = some (.int 1) := int_sign (j := 1) (by decide)
theorem i2 : gint (.str (S' [50])) = some (.int 2) := int_sign (j := 2) (by decide)
theorem i3 : gint (.str (S' [51])) = some (.int 3) := int_sign (j := 3) (by decide)
theorem len_ne {α : Type} {ps : List α} {n : Nat} (h : ps.length ≠ n) : ¬ (ps.length : Int) = (n : Int) := by omega
theorem at0 {x : D} {xs : List D} : gix (.lst (x :: xs)) (.int 0) = some x := atI_zero
theorem at1 {x y : D} {xs : List D} : gix (.lst (x :: y :: xs)) (.int 1) = some y := atI_one
theorem numF_no3 {ps : List (List Nat)} (h : ps.length ≠ 3) : numF "circle" ps = none := by
  unfold numF
  rw [if_pos rfl]
  split
  · exact absurd rfl h
  · rfl
theorem numF_no2 {w : Str} (hw : w ≠ "circle") {ps : List (List Nat)} (h : ps.length ≠ 2) : numF w ps = none := by
  unfold numF
  rw [if_neg hw]
  split
  · exact absurd rfl h
  · rfl
theorem numbered_circle {n : Nat} {ps : List (List Nat)} : call (n + 1) 13 [.val (.str "circle"), .val (PS' ps)] = some (.ok (.val (numD "circle" (numF "circle" ps))), [.val (.str "circle"), .val (PS' ps)]) := by
  rw [call]
  simp only [bodies]
  unfold runD b13
  by_cases hl : ps.length = 3
  · unfold numF
    rw [if_pos rfl]
    match ps, hl with
    | [x, y, u], _ =>
      have g1 := gnin_23 (x := x)
      have g2 := gnin_012 (x := y)
      by_cases q1 : x = [50] ∨ x = [51]
      · by_cases q2 : y = [48] ∨ y = [49] ∨ y = [50]
        · rcases q1 with rfl | rfl <;> rcases q2 with rfl | rfl | rfl <;> simp [lockOf, backs, at0, at1, g1, g2, i0, i1, i2, i3, numD]
        · have q2' : ¬ (x = [50] ∧ (y = [48] ∨ y = [49]) ∨ x = [51] ∧ (y = [48] ∨ y = [49] ∨ y = [50])) := fun h => q2 (by
            rcases h with ⟨_, h | h⟩ | ⟨_, h⟩
            · exact .inl h
            · exact .inr (.inl h)
            · exact h)
          rw [decide_eq_false q2] at g2
          rw [decide_eq_true q1] at g1
          simp [lockOf, backs, at0, at1, g1, g2, numD, q2']
      · have q2' : ¬ (x = [50] ∧ (y = [48] ∨ y = [49]) ∨ x = [51] ∧ (y = [48] ∨ y = [49] ∨ y = [50])) := fun h => q1 (by
          rcases h with ⟨h, _⟩ | ⟨h, _⟩
          · exact .inl h
          · exact .inr h)
        rw [decide_eq_false q1] at g1
        simp [lockOf, backs, at0, at1, g1, numD, q2']
  · have h3 := len_ne hl
    rw [numF_no3 hl]
    have hlen : glen (PS' ps) = some (.int (ps.length : Nat)) := by show some (D.int (((ps.map fun x => D.str (S' x)).length : Nat) : Int)) = _; rw [List.length_map]
    generalize PS' ps = L at hlen ⊢
    have h3' : ¬ (ps.length : Int) = 3 := h3
    simp [lockOf, backs, hlen, h3', numD]
theorem numbered_other {n : Nat} {w : Str} (hw : w ≠ "circle") {ps : List (List Nat)} : call (n + 1) 13 [.val (.str w), .val (PS' ps)] = some (.ok (.val (numD w (numF w ps))), [.val (.str w), .val (PS' ps)]) := by
  rw [call]
  simp only [bodies]
  unfold runD b13
  by_cases hl : ps.length = 2
  · unfold numF
    rw [if_neg hw]
    match ps, hl with
    | [x, u], _ =>
      have g1 := gnin_12 (x := x)
      have g2 := gnin_123 (x := x)
      by_cases qt : w = "times"
      · subst qt
        by_cases q1 : x = [49] ∨ x = [50] ∨ x = [51]
        · rcases q1 with rfl | rfl | rfl <;> simp [lockOf, backs, at0, g2, i1, i2, i3, numD]
        · have q1' : ¬ (x = [49] ∨ x = [50] ∨ (("times" : Str) = "times" ∧ x = [51])) := fun h => q1 (by
            rcases h with h | h | ⟨_, h⟩
            · exact .inl h
            · exact .inr (.inl h)
            · exact .inr (.inr h))
          rw [decide_eq_false q1] at g2
          simp [lockOf, backs, at0, g2, numD, q1]
      · by_cases q1 : x = [49] ∨ x = [50]
        · rcases q1 with rfl | rfl <;> simp [lockOf, backs, at0, g1, i1, i2, numD, hw, qt]
        · have q1' : ¬ (x = [49] ∨ x = [50] ∨ (w = "times" ∧ x = [51])) := fun h => (by
            rcases h with h | h | ⟨h, _⟩
            · exact q1 (.inl h)
            · exact q1 (.inr h)
            · exact qt h)
          rw [decide_eq_false q1] at g1
          simp [lockOf, backs, at0, g1, numD, hw, qt, q1]
  · have h3 := len_ne hl
    rw [numF_no2 hw hl]
    have hlen : glen (PS' ps) = some (.int (ps.length : Nat)) := by show some (D.int (((ps.map fun x => D.str (S' x)).length : Nat) : Int)) = _; rw [List.length_map]
    generalize PS' ps = L at hlen ⊢
    have h3' : ¬ (ps.length : Int) = 2 := h3
    by_cases qt : w = "times"
    · subst qt
      simp [lockOf, backs, hlen, h3', numD]
    · simp [lockOf, backs, hlen, h3', numD, hw, qt]
theorem numbered_ok {n : Nat} {w : Str} {ps : List (List Nat)} : call (n + 1) 13 [.val (.str w), .val (PS' ps)] = some (.ok (.val (numD w (numF w ps))), [.val (.str w), .val (PS' ps)]) := by
  by_cases h : w = "circle"
  · subst h; exact numbered_circle
  · exact numbered_other h
end My

set_option Elab.async false
set_option linter.all false
set_option maxRecDepth 100000
namespace My
open PySem L2 KR
theorem gadd_tup {a b : List D} (h : a.length + b.length ≤ 16777216) : gadd (.tup a) (.tup b) = some (.tup (a ++ b)) := if_pos (by rw [size_line]; exact h)
theorem lock_vals : ∀ (k : Nat) (ds : List D), lockOf k (ds.map RV.val) = []
  | _, [] => rfl
  | k, d :: ds => by
    rw [List.map_cons, lockOf, isVal_val, if_pos rfl]
    exact lock_vals (k + 1) ds
theorem back_vals : ∀ (k : Nat) (ds : List D) (ρ : KR.Env), backs k (ds.map RV.val) ρ = some (ds.map RV.val)
  | _, [], _ => rfl
  | k, d :: ds, ρ => by
    rw [List.map_cons, backs, back_vals (k + 1) ds ρ]
    dsimp only
    rw [isVal_val, if_pos rfl]
theorem runV {np N : Nat} {b : S} {ds : List D} {r : RV} {v : KR.Env} (hl : ds.length = np) (hN : np ≤ N) (e : b [] ((ds.map RV.val).map some ++ List.replicate (N - np) none) = some (.ok (.ret r), v)) : runD np N b (ds.map .val) = some (.ok r, ds.map .val) := by
  unfold runD
  rw [if_pos ⟨by rw [List.length_map]; exact hl, hN⟩, lock_vals, e]
  dsimp only
  rw [back_vals]
  rfl

/-! ### the law's reader: the questions within -/
def RdL (cc : Nat → Cl) (names : List Str) (x : List Nat) (R : D) : Prop := cc 14 [Tx x, NS names] = some (.ok (.val R), [Tx x, NS names])
inductive K2 (P : List Nat → D → Prop) : List (List Nat) → List D → Prop
  | nil : K2 P [] []
  | cons {x : List Nat} {R : D} {xs : List (List Nat)} {Rs : List D} : P x R → K2 P xs Rs → K2 P (x :: xs) (R :: Rs)
abbrev BK (cc : Nat → Cl) : S := (seq (sset 9 (ocall (cc 14) 2 (cval (getv 7) (cval (getv 1) (KR.ret [])))))
  (seq (sif (tst (una gisN (getv 9))) (sret (val (KR.ret .non))) skip)
  (sset 5 (val (KR.bin gadd (getv 5) (dtup (acons (getv 9) (KR.ret []))))))))
theorem isN_cases (R : D) : R = .non ∨ (R ≠ .non ∧ gisN R = some (.bl false)) := by
  cases R with
  | non => exact .inl rfl
  | _ => exact .inr ⟨by simp, rfl⟩
theorem kid_no {cc : Nat → Cl} {names : List Str} {x : List Nat} (h : RdL cc names x .non) {a0 a2 a3 a4 a5 a6 v9 : Option RV} :
    ∃ ρ, BK cc [] [a0, some (NS names), a2, a3, a4, a5, a6, some (Tx x), none, v9] = some (.ok (.ret (.val .non)), ρ) := by
  refine ⟨[a0, some (NS names), a2, a3, a4, a5, a6, some (Tx x), none, some (.val .non)], ?_⟩
  have h' : cc 14 [Tx x, NS names] = _ := h
  have n1 : gisN .non = some (.bl true) := rfl
  simp [takeA, putA, h', n1]
theorem kid_yes {cc : Nat → Cl} {names : List Str} {x : List Nat} {R : D} (h : RdL cc names x R) (hR : gisN R = some (.bl false)) {H : List D} (hH : H.length ≤ 1000) {a0 a2 a3 a4 a6 v9 : Option RV} :
    BK cc [] [a0, some (NS names), a2, a3, a4, some (.val (.tup H)), a6, some (Tx x), none, v9] = some (.ok .nx, [a0, some (NS names), a2, a3, a4, some (.val (.tup (H ++ [R]))), a6, some (Tx x), none, some (.val R)]) := by
  have h' : cc 14 [Tx x, NS names] = _ := h
  have g := gadd_tup (a := H) (b := [R]) (by simp; omega)
  simp [takeA, putA, h', hR, g]
theorem kids_for {cc : Nat → Cl} {names : List Str} {a0 a2 a3 a4 a6 : Option RV} : ∀ (kids : List (List Nat)) (H : List D) (v7 v9 : Option RV), (∀ x ∈ kids, ∃ R, RdL cc names x R) → H.length + kids.length ≤ 1000 →
    (∃ ρ, forL (gnm 7) (BK cc) (kids.map fun x => .str (S' x)) [] [a0, some (NS names), a2, a3, a4, some (.val (.tup H)), a6, v7, none, v9] = some (.ok (.ret (.val .non)), ρ) ∧ ∃ x ∈ kids, RdL cc names x .non) ∨
    ∃ Rs v7' v9', forL (gnm 7) (BK cc) (kids.map fun x => .str (S' x)) [] [a0, some (NS names), a2, a3, a4, some (.val (.tup H)), a6, v7, none, v9] = some (.ok .nx, [a0, some (NS names), a2, a3, a4, some (.val (.tup (H ++ Rs))), a6, v7', none, v9']) ∧ K2 (fun x R => RdL cc names x R ∧ R ≠ .non) kids Rs
  | [], H, v7, v9, _, _ => .inr ⟨[], v7, v9, by rw [List.append_nil]; rfl, .nil⟩
  | x :: kids, H, v7, v9, h, hl => by
    rw [List.length_cons] at hl
    obtain ⟨R, hR⟩ := h x List.mem_cons_self
    have g : gnm 7 (.str (S' x)) [] [a0, some (NS names), a2, a3, a4, some (.val (.tup H)), a6, v7, none, v9] = some [a0, some (NS names), a2, a3, a4, some (.val (.tup H)), a6, some (Tx x), none, v9] := by simp
    rw [List.map_cons]
    rcases isN_cases R with rfl | ⟨hn, hb⟩
    · obtain ⟨ρ, e⟩ := kid_no (a0 := a0) (a2 := a2) (a3 := a3) (a4 := a4) (a5 := some (.val (.tup H))) (a6 := a6) (v9 := v9) hR
      exact .inl ⟨ρ, forL_ret g e, x, List.mem_cons_self, hR⟩
    · have e := kid_yes (a0 := a0) (a2 := a2) (a3 := a3) (a4 := a4) (a6 := a6) (v9 := v9) (H := H) hR hb (by omega)
      rw [forL_nx g e]
      rcases kids_for (a0 := a0) (a2 := a2) (a3 := a3) (a4 := a4) (a6 := a6) kids (H ++ [R]) (some (Tx x)) (some (.val R)) (fun y hy => h y (List.mem_cons_of_mem _ hy)) (by rw [List.length_append, List.length_singleton]; omega) with ⟨ρ, e2, y, hy, hz⟩ | ⟨Rs, v7', v9', e2, k2⟩
      · exact .inl ⟨ρ, e2, y, List.mem_cons_of_mem _ hy, hz⟩
      · exact .inr ⟨R :: Rs, v7', v9', by rw [e2, List.append_assoc]; rfl, .cons ⟨hR, hn⟩ k2⟩
/-! ### the reader's parts -/
abbrev TB : List (Str × Int) := [("less", 2), ("same", 2), ("if", 3), ("last", 1), ("first", 1), ("before", 1), ("since", 2), ("among", 2)]
abbrev R6 : S := sif (tst (una gisN (getv 4))) (sret (val (KR.ret .non))) skip
abbrev R7 : S := sif (tst (KR.bin geq (getv 3) (KR.ret (.str "is")))) (sret (val (ite' (tand (tst (KR.bin geq (cal (f1 glen) (acons (getv 4) (KR.ret []))) (KR.ret (.int 1)))) (tst (KR.bin gin (KR.bin gix (getv 4) (KR.ret (.int 0))) (getv 1)))) (dtup (acons (getv 3) (acons (KR.bin gix (getv 4) (KR.ret (.int 0))) (KR.ret [])))) (KR.ret .non)))) skip
abbrev R8 (cc : Nat → Cl) : S := sif (tst (KR.bin gin (getv 3) (dtup (acons (KR.ret (.str "great")) (acons (KR.ret (.str "least")) (acons (KR.ret (.str "times")) (acons (KR.ret (.str "circle")) (KR.ret [])))))))) (seq (sset 5 (ocall (cc 13) 2 (cval (getv 3) (cval (getv 4) (KR.ret [])))))
  (sset 6 (val (cut (getv 4) (par (KR.bin gsub (cal (f1 glen) (acons (getv 4) (KR.ret []))) (KR.ret (.int 1)))) (KR.ret none))))) (seq (sclr 8) (seq (sif (tst (KR.bin gne (una (gget TB 0) (getv 3)) (cal (f1 glen) (acons (getv 4) (KR.ret []))))) (sret (val (KR.ret .non))) skip) skip))
abbrev R9 : S := sif (tst (una gisN (getv 5))) (sret (val (KR.ret .non))) skip
abbrev RT (cc : Nat → Cl) : S := seq R6 (seq R7 (seq (sset 5 (val (dtup (acons (getv 3) (KR.ret []))))) (seq (sset 6 (val (getv 4))) (seq (R8 cc) (seq R9 (seq (sfor (gnm 7) (its (getv 6)) (BK cc)) (sret (val (getv 5)))))))))
abbrev R1 : S := sif (tor (tst (KR.bin geq (getv 0) (KR.ret (.str "now")))) (tst (KR.bin geq (getv 0) (KR.ret (.str "nothing"))))) (sret (val (dtup (acons (getv 0) (KR.ret []))))) skip
abbrev R2' : S := sset 2 (val (findD (getv 0) (KR.ret (.str "("))))
abbrev R3 : S := sif (tor (tst (KR.bin glt (getv 2) (KR.ret (.int 0)))) (tst (KR.bin gne (KR.bin gix (getv 0) (KR.bin gsub (cal (f1 glen) (acons (getv 0) (KR.ret []))) (KR.ret (.int 1)))) (KR.ret (.str ")"))))) (sret (val (KR.ret .non))) skip
abbrev R4 : S := sset 3 (val (cut (getv 0) (KR.ret none) (par (getv 2))))
abbrev R5 (cc : Nat → Cl) : S := sset 4 (ocall (cc 12) 1 (cval (cut (getv 0) (par (KR.bin gadd (getv 2) (KR.ret (.int 1)))) (par (KR.bin gsub (cal (f1 glen) (acons (getv 0) (KR.ret []))) (KR.ret (.int 1))))) (KR.ret [])))
theorem b14_eq (cc : Nat → Cl) : b14 cc = seq R1 (seq R2' (seq R3 (seq R4 (seq (R5 cc) (RT cc))))) := rfl
theorem call14 {k : Nat} {rs : List RV} : call (k + 1) 14 rs = runD 2 10 (b14 (call k)) rs := by
  rw [call]
  simp only [bodies]
/-- how a run tells a value -/
theorem run14 {b : S} {t : List Nat} {names : List Str} {R : D} {ρ : KR.Env} (e : b [] [some (Tx t), some (NS names), none, none, none, none, none, none, none, none] = some (.ok (.ret (.val R)), ρ)) : runD 2 10 b [Tx t, NS names] = some (.ok (.val R), [Tx t, NS names]) :=
  runV (ds := [.str (S' t), .tup (names.map .str)]) rfl (by decide) (v := ρ) e
end My

set_option Elab.async false
set_option linter.all false
set_option maxRecDepth 100000
namespace My
open PySem L2 KR
theorem seq_nx' {a b : S} {lk : List Nat} {ρ ρ' : KR.Env} (h : a lk ρ = some (.ok .nx, ρ')) : seq a b lk ρ = b lk ρ' := by
  unfold seq
  rw [h]
theorem cut0 {X w r : List Nat} (h : X = w ++ r) (hX : X.length ≤ 10000000) : gsl none (some (w.length : Int)) (.str (S' X)) = some (.str (S' w)) := by
  have e := gsl_S (X := X) (a := w) (r := r) (i := 0) (j := w.length) (by simpa using h) (by simp) (Nat.zero_le _) (by omega)
  exact e
section
variable {cc : Nat → Cl} {t : List Nat} {names : List Str}
theorem read_leaf (h : S' t = ("now" : Str) ∨ S' t = ("nothing" : Str)) : ∃ ρ, b14 cc [] [some (Tx t), some (NS names), none, none, none, none, none, none, none, none] = some (.ok (.ret (.val (.tup [.str (S' t)]))), ρ) := by
  rw [b14_eq]
  refine ⟨[some (Tx t), some (NS names), none, none, none, none, none, none, none, none], ?_⟩
  by_cases q : S' t = ("now" : Str)
  · simp [q]
  · have q2 := h.resolve_left q
    simp [q2]
theorem r1_skip {v2 v3 v4 : Option RV} (h : ¬ (S' t = ("now" : Str) ∨ S' t = ("nothing" : Str))) : R1 [] [some (Tx t), some (NS names), v2, v3, v4, none, none, none, none, none] = some (.ok .nx, [some (Tx t), some (NS names), v2, v3, v4, none, none, none, none, none]) := by
  have h1 : ¬ S' t = ("now" : Str) := fun e => h (.inl e)
  have h2 : ¬ S' t = ("nothing" : Str) := fun e => h (.inr e)
  simp [h1, h2]
theorem r2_run {z : Int} (h : Txt.find (S' t) ("(" : Str) = z) : R2' [] [some (Tx t), some (NS names), none, none, none, none, none, none, none, none] = some (.ok .nx, [some (Tx t), some (NS names), some (KR.I z), none, none, none, none, none, none, none]) := by
  simp [h]
theorem read_nobr (h : ¬ (S' t = ("now" : Str) ∨ S' t = ("nothing" : Str))) (hn : 40 ∉ t) : ∃ ρ, b14 cc [] [some (Tx t), some (NS names), none, none, none, none, none, none, none, none] = some (.ok (.ret (.val .non)), ρ) := by
  rw [b14_eq, seq_nx' (r1_skip h), seq_nx' (r2_run (find_no hn))]
  refine ⟨[some (Tx t), some (NS names), some (KR.I (-1)), none, none, none, none, none, none, none], ?_⟩
  simp
theorem last_at {a : List Nat} {c : Nat} (hX : (a ++ [c]).length ≤ 10000000) : gix (.str (S' (a ++ [c]))) (.int (((a ++ [c]).length : Int) - 1)) = some (.str (S' [c])) := by
  have e : ((a ++ [c]).length : Int) - 1 = (a.length : Nat) := by simp
  rw [e]
  exact gix_S (r := []) (by simp) (by omega)
theorem read_last {a : List Nat} {c : Nat} {i : Nat} (ht : t = a ++ [c]) (hX : t.length ≤ 10000000) (h : ¬ (S' t = ("now" : Str) ∨ S' t = ("nothing" : Str))) (hf : Txt.find (S' t) ("(" : Str) = (i : Int)) (hc : c ≠ 41) : ∃ ρ, b14 cc [] [some (Tx t), some (NS names), none, none, none, none, none, none, none, none] = some (.ok (.ret (.val .non)), ρ) := by
  rw [b14_eq, seq_nx' (r1_skip h), seq_nx' (r2_run hf)]
  refine ⟨[some (Tx t), some (NS names), some (KR.I i), none, none, none, none, none, none, none], ?_⟩
  have g := glen_S (l := t) (by omega)
  have l := last_at (a := a) (c := c) (by rw [← ht]; exact hX)
  rw [← ht] at l
  have hi : ¬ ((i : Int) < 0) := by omega
  simp [g, l, hi, rpar, S_inj, hc]
theorem prefix_run {w mid : List Nat} {D0 : D} (ht : t = w ++ 40 :: (mid ++ [41])) (hX : t.length ≤ 10000000) (h : ¬ (S' t = ("now" : Str) ∨ S' t = ("nothing" : Str))) (hw : 40 ∉ w) (hs : cc 12 [Tx mid] = some (.ok (.val D0), [Tx mid])) :
    b14 cc [] [some (Tx t), some (NS names), none, none, none, none, none, none, none, none] = RT cc [] [some (Tx t), some (NS names), some (KR.I w.length), some (.val (.str (S' w))), some (.val D0), none, none, none, none, none] := by
  have hf : Txt.find (S' t) ("(" : Str) = (w.length : Int) := by rw [ht]; exact find_at hw
  have g := glen_S (l := t) (by omega)
  have hta : t = (w ++ 40 :: mid) ++ [41] := by rw [ht]; simp
  have l := last_at (a := w ++ 40 :: mid) (c := 41) (by rw [← hta]; exact hX)
  rw [← hta] at l
  have hi : ¬ ((w.length : Int) < 0) := by omega
  have c0 := cut0 (X := t) (w := w) (r := 40 :: (mid ++ [41])) ht hX
  have hd : t.drop (w.length + 1) = mid ++ [41] := by
    have := adv (X := t) (a := w ++ [40]) (b := mid ++ [41]) (i := 0) (by rw [ht]; simp)
    simpa using this
  have htl : t.length = w.length + 1 + mid.length + 1 := by rw [ht]; simp; omega
  have c1 := gsl_S (X := t) (a := mid) (r := [41]) (i := w.length + 1) (j := w.length + 1 + mid.length) hd rfl (by omega) (by omega)
  have e1 : ((w.length + 1 : Nat) : Int) = (w.length : Int) + 1 := rfl
  have e2 : ((w.length + 1 + mid.length : Nat) : Int) = (t.length : Int) - 1 := by omega
  rw [e1, e2] at c1
  have r3 : R3 [] [some (Tx t), some (NS names), some (KR.I w.length), none, none, none, none, none, none, none] = some (.ok .nx, [some (Tx t), some (NS names), some (KR.I w.length), none, none, none, none, none, none, none]) := by
    simp [g, l, hi, rpar]
  have r4 : R4 [] [some (Tx t), some (NS names), some (KR.I w.length), none, none, none, none, none, none, none] = some (.ok .nx, [some (Tx t), some (NS names), some (KR.I w.length), some (.val (.str (S' w))), none, none, none, none, none, none]) := by
    simp [asI, c0]
  have r5 : R5 cc [] [some (Tx t), some (NS names), some (KR.I w.length), some (.val (.str (S' w))), none, none, none, none, none, none] = some (.ok .nx, [some (Tx t), some (NS names), some (KR.I w.length), some (.val (.str (S' w))), some (.val D0), none, none, none, none, none]) := by
    simp [asI, g, c1, takeA, putA, hs]
  rw [b14_eq, seq_nx' (r1_skip h), seq_nx' (r2_run hf), seq_nx' r3, seq_nx' r4, seq_nx' r5]
end
end My

set_option Elab.async false
set_option linter.all false
set_option maxRecDepth 100000
namespace My
open PySem L2 KR
theorem seq_ret {a b : S} {lk : List Nat} {ρ ρ' : KR.Env} {r : RV} (h : a lk ρ = some (.ok (.ret r), ρ')) : seq a b lk ρ = some (.ok (.ret r), ρ') := by
  unfold seq
  rw [h]
abbrev NUMS : List Str := ["great", "least", "times", "circle"]
/-- what a word and its pieces ask for: the head, the questions within -/
def headF (names : List Str) (w : Str) (ps : List (List Nat)) : Option (List D × List (List Nat)) :=
  if w = "is" then (match ps with
    | [x] => if S' x ∈ names then some ([.str w, .str (S' x)], []) else none
    | _ => none)
  else if w ∈ NUMS then (match numF w ps with
    | none => none
    | some js => some (.str w :: js.map .int, ps.drop (ps.length - 1)))
  else if (TB.lookup w).getD 0 = (ps.length : Int) then some ([.str w], ps) else none
theorem tb_le (w : Str) : (TB.lookup w).getD 0 ≤ 3 := by
  cases h : TB.lookup w with
  | none => decide
  | some z =>
    have hm := lookup_pair h
    have ha : ∀ p ∈ TB, p.2 ≤ 3 := by decide +kernel
    exact ha _ hm
theorem numF_ne {w : Str} {ps : List (List Nat)} {js : List Int} (h : numF w ps = some js) : js.length ≤ 2 ∧ 2 ≤ ps.length ∧ ps.length ≤ 3 := by
  unfold numF at h
  split at h
  · split at h
    · split at h
      · cases h; exact ⟨Nat.le_refl _, by simp, by simp⟩
      · cases h
    · cases h
  · split at h
    · split at h
      · cases h; exact ⟨by simp, by simp, by simp⟩
      · cases h
    · cases h
theorem glen_PS {ps : List (List Nat)} : glen (PS' ps) = some (.int (ps.length : Nat)) := by
  show some (D.int (((ps.map fun x => D.str (S' x)).length : Nat) : Int)) = _
  rw [List.length_map]
theorem cut_PS {ps : List (List Nat)} (h : 1 ≤ ps.length) : gsl (some ((ps.length : Int) - 1)) none (PS' ps) = some (PS' (ps.drop (ps.length - 1))) := by
  have e : (ps.length : Int) - 1 = ((ps.length - 1 : Nat) : Int) := by omega
  rw [e]
  show some (D.lst (cutD _ _ _)) = _
  unfold cutD
  rw [HT.sIx_none, HT.sIx_nat, List.length_map, Nat.min_eq_left (by omega)]
  rw [← List.map_drop, List.take_of_length_le (by rw [List.length_map, List.length_drop]; omega)]
section
variable {k : Nat} {t : List Nat} {names : List Str} {a : Int} {w : Str} {ps : List (List Nat)}
abbrev E0 (t : List Nat) (names : List Str) (a : Int) (w : Str) (D0 : D) : KR.Env := [some (Tx t), some (NS names), some (KR.I a), some (.val (.str w)), some (.val D0), none, none, none, none, none]
theorem tail_none {cc : Nat → Cl} : ∃ ρ, RT cc [] (E0 t names a w .non) = some (.ok (.ret (.val .non)), ρ) := by
  refine ⟨E0 t names a w .non, ?_⟩
  have n1 : gisN .non = some (.bl true) := rfl
  simp [n1]
theorem r6_skip {v5 : Option RV} : R6 [] (E0 t names a w (PS' ps)) = some (.ok .nx, E0 t names a w (PS' ps)) := by
  have n1 : gisN (PS' ps) = some (.bl false) := rfl
  generalize PS' ps = L at n1 ⊢
  simp [n1]
theorem tail_is {cc : Nat → Cl} : ∃ ρ, RT cc [] (E0 t names a "is" (PS' ps)) = some (.ok (.ret (.val (match ps with
    | [x] => if S' x ∈ names then .tup [.str "is", .str (S' x)] else .non
    | _ => .non))), ρ) := by
  refine ⟨E0 t names a "is" (PS' ps), ?_⟩
  unfold RT
  rw [seq_nx' (r6_skip (v5 := none))]
  by_cases hl : ps.length = 1
  · match ps, hl with
    | [x], _ =>
      have g := gin_strs (x := S' x) (ys := names)
      by_cases q : S' x ∈ names
      · rw [decide_eq_true q] at g
        simp [at0, g, q]
      · rw [decide_eq_false q] at g
        simp [at0, g, q]
  · have h1 : ¬ (ps.length : Int) = 1 := by omega
    have e : ∀ ps : List (List Nat), ps.length ≠ 1 → (match ps with
      | [x] => if S' x ∈ names then D.tup [.str "is", .str (S' x)] else .non
      | _ => .non) = D.non := fun ps h => by
      split
      · exact absurd rfl h
      · rfl
    rw [e ps hl]
    have hlen := glen_PS (ps := ps)
    generalize PS' ps = L at hlen ⊢
    simp [hlen, h1]
theorem r7_skip (h : w ≠ "is") : R7 [] (E0 t names a w (PS' ps)) = some (.ok .nx, E0 t names a w (PS' ps)) := by
  generalize PS' ps = L
  simp [h]
/-- the head and the questions within are set -/
abbrev E1 (t : List Nat) (names : List Str) (a : Int) (w : Str) (P Hd K : D) : KR.Env := [some (Tx t), some (NS names), some (KR.I a), some (.val (.str w)), some (.val P), some (.val Hd), some (.val K), none, none, none]
theorem s56 {b : S} : seq (sset 5 (val (dtup (acons (getv 3) (KR.ret []))))) (seq (sset 6 (val (getv 4))) b) [] (E0 t names a w (PS' ps)) = b [] (E1 t names a w (PS' ps) (.tup [.str w]) (PS' ps)) := by
  generalize PS' ps = L
  simp
theorem r8_num (hw : w ∈ NUMS) (hl : 1 ≤ ps.length) : R8 (call (k + 1)) [] (E1 t names a w (PS' ps) (.tup [.str w]) (PS' ps)) = some (.ok .nx, E1 t names a w (PS' ps) (numD w (numF w ps)) (PS' (ps.drop (ps.length - 1)))) := by
  have g := gin_strs (x := w) (ys := NUMS)
  rw [decide_eq_true hw] at g
  have g' : gin (.str w) (.tup [.str "great", .str "least", .str "times", .str "circle"]) = some (.bl true) := g
  have e := numbered_ok (n := k) (w := w) (ps := ps)
  have hlen := glen_PS (ps := ps)
  have c := cut_PS hl
  unfold R8
  generalize PS' ps = L at e hlen c ⊢
  generalize PS' (ps.drop (ps.length - 1)) = L2 at c ⊢
  simp [g', takeA, putA, e, hlen, asI, c]
theorem r8_tab_no {cc : Nat → Cl} (hw : w ∉ NUMS) (hc : ¬ (TB.lookup w).getD 0 = (ps.length : Int)) : ∃ ρ, R8 cc [] (E1 t names a w (PS' ps) (.tup [.str w]) (PS' ps)) = some (.ok (.ret (.val .non)), ρ) := by
  refine ⟨E1 t names a w (PS' ps) (.tup [.str w]) (PS' ps), ?_⟩
  have g := gin_strs (x := w) (ys := NUMS)
  rw [decide_eq_false hw] at g
  have g' : gin (.str w) (.tup [.str "great", .str "least", .str "times", .str "circle"]) = some (.bl false) := g
  have hlen := glen_PS (ps := ps)
  have gg : gget TB 0 (.str w) = some (.int ((TB.lookup w).getD 0)) := rfl
  unfold R8
  generalize gget TB 0 = G at gg ⊢
  generalize (TB.lookup w).getD 0 = z at hc gg
  generalize PS' ps = L at hlen ⊢
  simp [g', gg, hlen, hc]
theorem r8_tab {cc : Nat → Cl} (hw : w ∉ NUMS) (hc : (TB.lookup w).getD 0 = (ps.length : Int)) : R8 cc [] (E1 t names a w (PS' ps) (.tup [.str w]) (PS' ps)) = some (.ok .nx, E1 t names a w (PS' ps) (.tup [.str w]) (PS' ps)) := by
  have g := gin_strs (x := w) (ys := NUMS)
  rw [decide_eq_false hw] at g
  have g' : gin (.str w) (.tup [.str "great", .str "least", .str "times", .str "circle"]) = some (.bl false) := g
  have hlen := glen_PS (ps := ps)
  have gg : gget TB 0 (.str w) = some (.int ((TB.lookup w).getD 0)) := rfl
  unfold R8
  generalize gget TB 0 = G at gg ⊢
  generalize (TB.lookup w).getD 0 = z at hc gg
  generalize PS' ps = L at hlen ⊢
  simp [g', gg, hlen, hc]
theorem tail_loop {cc : Nat → Cl} {H : List D} {kids : List (List Nat)} (hk : ∀ x ∈ kids, ∃ R, RdL cc names x R) (hl : H.length + kids.length ≤ 1000) :
    ∃ R ρ, seq R9 (seq (sfor (gnm 7) (its (getv 6)) (BK cc)) (sret (val (getv 5)))) [] (E1 t names a w (PS' ps) (.tup H) (PS' kids)) = some (.ok (.ret (.val R)), ρ) ∧
      ((R = .non ∧ ∃ x ∈ kids, RdL cc names x .non) ∨ ∃ Rs, K2 (fun x R => RdL cc names x R ∧ R ≠ .non) kids Rs ∧ R = .tup (H ++ Rs)) := by
  have r9 : R9 [] (E1 t names a w (PS' ps) (.tup H) (PS' kids)) = some (.ok .nx, E1 t names a w (PS' ps) (.tup H) (PS' kids)) := by
    have n1 : gisN (.tup H) = some (.bl false) := rfl
    generalize PS' kids = L
    generalize PS' ps = L2
    simp [n1]
  rw [seq_nx' r9]
  have hi : its (getv 6) (E1 t names a w (PS' ps) (.tup H) (PS' kids)) = some (.ok (kids.map fun x => .str (S' x)), E1 t names a w (PS' ps) (.tup H) (PS' kids)) := by
    generalize PS' ps = L2
    simp
  rcases kids_for (cc := cc) (names := names) (a0 := some (Tx t)) (a2 := some (KR.I a)) (a3 := some (.val (.str w))) (a4 := some (.val (PS' ps))) (a6 := some (.val (PS' kids))) kids H none none hk hl with ⟨ρ, e, x, hx, hz⟩ | ⟨Rs, v7, v9, e, k2⟩
  · refine ⟨.non, ρ, ?_, .inl ⟨rfl, x, hx, hz⟩⟩
    refine seq_ret ?_
    rw [sfor_ap, sbnd_ap, hi]
    exact e
  · have ef : sfor (gnm 7) (its (getv 6)) (BK cc) [] (E1 t names a w (PS' ps) (.tup H) (PS' kids)) = some (.ok .nx, [some (Tx t), some (NS names), some (KR.I a), some (.val (.str w)), some (.val (PS' ps)), some (.val (.tup (H ++ Rs))), some (.val (PS' kids)), v7, none, v9]) := by
      rw [sfor_ap, sbnd_ap, hi]
      exact e
    have es : sret (val (getv 5)) [] [some (Tx t), some (NS names), some (KR.I a), some (.val (.str w)), some (.val (PS' ps)), some (.val (.tup (H ++ Rs))), some (.val (PS' kids)), v7, none, v9] = some (.ok (.ret (.val (.tup (H ++ Rs)))), [some (Tx t), some (NS names), some (KR.I a), some (.val (.str w)), some (.val (PS' ps)), some (.val (.tup (H ++ Rs))), some (.val (PS' kids)), v7, none, v9]) := by
      generalize PS' kids = L
      generalize PS' ps = L2
      simp
    exact ⟨.tup (H ++ Rs), _, (seq_nx' ef).trans es, .inr ⟨Rs, k2, rfl⟩⟩
/-- what the tail tells -/
theorem tail_all (hk : ∀ x ∈ ps, ∃ R, RdL (call (k + 1)) names x R) (hp1 : 1 ≤ ps.length) : ∃ R ρ, RT (call (k + 1)) [] (E0 t names a w (PS' ps)) = some (.ok (.ret (.val R)), ρ) ∧
    ((headF names w ps = none ∧ R = .non) ∨ ∃ H kids, headF names w ps = some (H, kids) ∧ ((R = .non ∧ ∃ x ∈ kids, RdL (call (k + 1)) names x .non) ∨ ∃ Rs, K2 (fun x R => RdL (call (k + 1)) names x R ∧ R ≠ .non) kids Rs ∧ R = .tup (H ++ Rs))) := by
  by_cases q : w = "is"
  · subst q
    obtain ⟨ρ, e⟩ := tail_is (cc := call (k + 1)) (t := t) (names := names) (a := a) (ps := ps)
    refine ⟨_, ρ, e, ?_⟩
    unfold headF
    rw [if_pos rfl]
    split
    · split
      · exact .inr ⟨_, _, rfl, .inr ⟨[], .nil, rfl⟩⟩
      · exact .inl ⟨rfl, rfl⟩
    · exact .inl ⟨rfl, rfl⟩
  · have e67 : RT (call (k + 1)) [] (E0 t names a w (PS' ps)) = seq (R8 (call (k + 1))) (seq R9 (seq (sfor (gnm 7) (its (getv 6)) (BK (call (k + 1)))) (sret (val (getv 5))))) [] (E1 t names a w (PS' ps) (.tup [.str w]) (PS' ps)) := by
      unfold RT
      rw [seq_nx' (r6_skip (v5 := none)), seq_nx' (r7_skip q)]
      exact s56
    rw [e67]
    unfold headF
    rw [if_neg q]
    by_cases qn : w ∈ NUMS
    · rw [if_pos qn, seq_nx' (r8_num qn hp1)]
      cases hn : numF w ps with
      | none =>
        refine ⟨.non, E1 t names a w (PS' ps) .non (PS' (ps.drop (ps.length - 1))), ?_, .inl ⟨rfl, rfl⟩⟩
        refine seq_ret ?_
        show R9 [] (E1 t names a w (PS' ps) .non (PS' (ps.drop (ps.length - 1)))) = _
        have n1 : gisN .non = some (.bl true) := rfl
        generalize PS' (ps.drop (ps.length - 1)) = L
        generalize PS' ps = L2
        simp [n1]
      | some js =>
        obtain ⟨j1, j2, j3⟩ := numF_ne hn
        obtain ⟨R, ρ, e, h⟩ := tail_loop (t := t) (names := names) (a := a) (w := w) (ps := ps) (cc := call (k + 1)) (H := .str w :: js.map .int) (kids := ps.drop (ps.length - 1)) (fun x hx => hk x (List.mem_of_mem_drop hx)) (by rw [List.length_cons, List.length_map, List.length_drop]; omega)
        exact ⟨R, ρ, e, .inr ⟨_, _, rfl, h⟩⟩
    · rw [if_neg qn]
      by_cases qc : (TB.lookup w).getD 0 = (ps.length : Int)
      · rw [if_pos qc, seq_nx' (r8_tab qn qc)]
        obtain ⟨R, ρ, e, h⟩ := tail_loop (t := t) (names := names) (a := a) (w := w) (ps := ps) (cc := call (k + 1)) (H := [.str w]) (kids := ps) hk (by have := tb_le w; rw [List.length_singleton]; omega)
        exact ⟨R, ρ, e, .inr ⟨_, _, rfl, h⟩⟩
      · rw [if_neg qc]
        obtain ⟨ρ, e⟩ := r8_tab_no (t := t) (names := names) (a := a) (cc := call (k + 1)) qn qc
        exact ⟨.non, ρ, seq_ret e, .inl ⟨rfl, rfl⟩⟩
end
end My

set_option Elab.async false
set_option linter.all false
set_option maxRecDepth 100000
namespace My
open PySem L2 KR
/-! ### the law's reader finds only what stands there -/
theorem t_form (t : List Nat) : 40 ∉ t ∨ ∃ w r, t = w ++ 40 :: r ∧ 40 ∉ w := by
  induction t with
  | nil => exact .inl (by simp)
  | cons c t ih =>
    by_cases q : c = 40
    · subst q; exact .inr ⟨[], t, rfl, by simp⟩
    · rcases ih with h | ⟨w, r, rfl, h⟩
      · exact .inl (by simp [h]; exact fun e => q e.symm)
      · exact .inr ⟨c :: w, r, rfl, by simp [h]; exact fun e => q e.symm⟩
theorem sg_snoc (c : Nat) : ∀ (P : List (List Nat)) (s : List Nat), sg c (P ++ [s]) = c :: jn P s
  | [], s => by simp [sg, jn]
  | x :: P, s => by
    have := sg_snoc 44 P s
    show c :: x ++ sg 44 (P ++ [s]) = _
    rw [this]
    simp [jn]
theorem pieces_join {t : List Nat} {ps : List (List Nat)} (h : pieces t = some ps) : ps ≠ [] ∧ ∀ c, sg c ps = c :: t := by
  unfold pieces at h
  split at h
  · rename_i P s e
    cases h
    have := scan_join t 0 [] [] e
    refine ⟨by simp, fun c => ?_⟩
    rw [sg_snoc, this]
    simp [jn]
  · cases h
theorem sg_count (a : Nat) : ∀ (c : Nat) (ps : List (List Nat)), ∀ x ∈ ps, x.count a ≤ (sg c ps).count a
  | c, [], x, h => by cases h
  | c, p :: ps, x, h => by
    show x.count a ≤ (c :: p ++ sg 44 ps).count a
    rw [List.count_append, List.count_cons]
    rcases List.mem_cons.mp h with e | e
    · rw [e]; omega
    · have := sg_count a 44 ps x e; omega
theorem as_of_q {ns : List Str} {T : D → List Nat → Bool → Int → Prop} {nmT : D → List Nat → Prop} (hT : ∀ d t, nmT d t → ∃ b p, T d t b p) : ∀ {xs : List (List Nat)} {Rs : List D} (ps : List D), K2 (fun x R => nmT R x) xs Rs → ∃ b p, As ns T ps (xs.map fun _ => .str "question") Rs xs b false p := by
  intro xs Rs ps h
  induction h generalizing ps with
  | nil => exact ⟨_, _, .nil ps⟩
  | cons h1 h2 ih =>
    obtain ⟨b1, p1, t1⟩ := hT _ _ h1
    obtain ⟨b2, p2, a2⟩ := ih (ps ++ [_])
    exact ⟨_, _, .q t1 a2⟩
theorem K2.imp {P Q : List Nat → D → Prop} {xs : List (List Nat)} {Rs : List D} (h : K2 P xs Rs) (i : ∀ x ∈ xs, ∀ R, P x R → Q x R) : K2 Q xs Rs := by
  induction h with
  | nil => exact .nil
  | cons h1 h2 ih => exact .cons (i _ List.mem_cons_self _ h1) (ih fun x hx => i x (List.mem_cons_of_mem _ hx))
/-- a node, from the head and what is within -/
theorem node_of {names : List Str} (hn : ∀ x ∈ names, ∀ c ∈ cp x, letter c) {m : Nat} {w : Str} {ps kids : List (List Nat)} {H Rs : List D} (hh : headF names w ps = some (H, kids)) (h0 : ps ≠ []) (hk : K2 (fun x R => ∃ b p, Tg names m R x b p) kids Rs) :
    ∃ b p, Tg names (m + 1) (.tup (H ++ Rs)) (cp w ++ (sg 40 ps ++ [41])) b p := by
  have fin : ∀ (ks ds : List D) (b nm : Bool) (p : Int), tb_SHAPES.lookup w = some (.tup ks) → ps.length ≤ 3 → As names (Tg names m) [.str w] ks ds ps b nm p → nm = decide (w = "is") → H ++ Rs = .str w :: ds → ∃ b p, Tg names (m + 1) (.tup (H ++ Rs)) (cp w ++ (sg 40 ps ++ [41])) b p := by
    intro ks ds b nm p h1 h2 h3 h4 h5
    subst h4
    exact ⟨b, 1 + p, .inr ⟨w, ks, ds, ps, b, p, h1, h0, h2, h3, by rw [h5], rfl, rfl, rfl⟩⟩
  have tr : ∀ d t, (∃ b p, Tg names m d t b p) → ∃ b p, Tg names m d t b p := fun _ _ h => h
  unfold headF at hh
  split at hh
  · rename_i hw
    subst hw
    split at hh
    · rename_i x
      split at hh
      · rename_i hx
        cases hh
        cases hk
        have hc : cp (S' x) = x := by simp [S']
        have a := As.name (T := Tg names m) (ps := [.str "is"]) hx (hn _ hx)
        rw [hc] at a
        exact fin _ _ _ _ _ rfl (by simp) a rfl rfl
      · cases hh
    · cases hh
  · rename_i hw
    have nis : (false : Bool) = decide (w = "is") := (decide_eq_false hw).symm
    split at hh
    · rename_i hnum
      split at hh
      · cases hh
      · rename_i js hj
        cases hh
        unfold numF at hj
        split at hj
        · rename_i hc
          subst hc
          split at hj
          · rename_i x y u
            split at hj
            · rename_i hxy
              cases hj
              cases hk with
              | cons hu hnil =>
                cases hnil
                obtain ⟨b1, p1, t1⟩ := hu
                have q : ∀ ps, As names (Tg names m) ps [.str "question"] [_] [u] _ false _ := fun ps => As.q t1 (.nil _)
                rcases hxy with ⟨rfl, hy⟩ | ⟨rfl, hy⟩
                · have hy' : ∃ j : Nat, y = [48 + j] ∧ j ≤ 1 := by
                    rcases hy with rfl | rfl
                    · exact ⟨0, rfl, by omega⟩
                    · exact ⟨1, rfl, by omega⟩
                  obtain ⟨j, rfl, hj⟩ := hy'
                  have m1 : 48 + j ∈ [48, 49] := by
                    have : j = 0 ∨ j = 1 := by omega
                    rcases this with rfl | rfl <;> simp
                  have d2 := As.dig (ns := names) (T := Tg names m) (ps := [.str "circle", .int 2]) (k := "rest") (j := j) (al := [48, 49]) (by decide +kernel) (by decide +kernel) rfl m1 (by omega) (q _)
                  have d1 := As.dig (ns := names) (T := Tg names m) (ps := [.str "circle"]) (k := "circle") (j := 2) (al := cp "23") (by decide +kernel) (by decide +kernel) rfl (by decide +kernel) (by omega) d2
                  exact fin _ _ _ _ _ rfl (by simp) d1 nis (by simp)
                · have hy' : ∃ j : Nat, y = [48 + j] ∧ j ≤ 2 := by
                    rcases hy with rfl | rfl | rfl
                    · exact ⟨0, rfl, by omega⟩
                    · exact ⟨1, rfl, by omega⟩
                    · exact ⟨2, rfl, by omega⟩
                  obtain ⟨j, rfl, hj⟩ := hy'
                  have m1 : 48 + j ∈ [48, 49, 50] := by
                    have : j = 0 ∨ j = 1 ∨ j = 2 := by omega
                    rcases this with rfl | rfl | rfl <;> simp
                  have d2 := As.dig (ns := names) (T := Tg names m) (ps := [.str "circle", .int 3]) (k := "rest") (j := j) (al := [48, 49, 50]) (by decide +kernel) (by decide +kernel) rfl m1 (by omega) (q _)
                  have d1 := As.dig (ns := names) (T := Tg names m) (ps := [.str "circle"]) (k := "circle") (j := 3) (al := cp "23") (by decide +kernel) (by decide +kernel) rfl (by decide +kernel) (by omega) d2
                  exact fin _ _ _ _ _ rfl (by simp) d1 nis (by simp)
            · cases hj
          · cases hj
        · rename_i hc
          split at hj
          · rename_i x u
            split at hj
            · rename_i hx
              cases hj
              cases hk with
              | cons hu hnil =>
                cases hnil
                obtain ⟨b1, p1, t1⟩ := hu
                have q : ∀ ps, As names (Tg names m) ps [.str "question"] [_] [u] _ false _ := fun ps => As.q t1 (.nil _)
                have hx' : ∃ j : Nat, x = [48 + j] ∧ 1 ≤ j ∧ j ≤ 3 ∧ (j = 3 → w = "times") := by
                  rcases hx with rfl | rfl | ⟨h, rfl⟩
                  · exact ⟨1, rfl, by omega, by omega, fun h => by omega⟩
                  · exact ⟨2, rfl, by omega, by omega, fun h => by omega⟩
                  · exact ⟨3, rfl, by omega, by omega, fun _ => h⟩
                obtain ⟨j, rfl, j1, j3, jt⟩ := hx'
                have c12 : cp "12" = [49, 50] := by decide +kernel
                have c123 : cp "123" = [49, 50, 51] := by decide +kernel
                have hw4 : w = "great" ∨ w = "least" ∨ w = "times" := by
                  simp only [List.mem_cons, List.not_mem_nil, or_false] at hnum
                  rcases hnum with h | h | h | h
                  · exact .inl h
                  · exact .inr (.inl h)
                  · exact .inr (.inr h)
                  · exact absurd h hc
                have two : w ≠ "times" → 48 + j ∈ cp "12" := fun h => by
                  have : j = 1 ∨ j = 2 := by
                    by_cases q3 : j = 3
                    · exact absurd (jt q3) h
                    · omega
                  rw [c12]
                  rcases this with rfl | rfl <;> simp
                rcases hw4 with rfl | rfl | rfl
                · have d1 := As.dig (ns := names) (T := Tg names m) (ps := [.str "great"]) (k := "two") (j := j) (al := cp "12") (by decide +kernel) (by decide +kernel) rfl (two (by decide +kernel)) j3 (q _)
                  exact fin _ _ _ _ _ rfl (by simp) d1 nis (by simp)
                · have d1 := As.dig (ns := names) (T := Tg names m) (ps := [.str "least"]) (k := "two") (j := j) (al := cp "12") (by decide +kernel) (by decide +kernel) rfl (two (by decide +kernel)) j3 (q _)
                  exact fin _ _ _ _ _ rfl (by simp) d1 nis (by simp)
                · have m3 : 48 + j ∈ cp "123" := by
                    have : j = 1 ∨ j = 2 ∨ j = 3 := by omega
                    rw [c123]
                    rcases this with rfl | rfl | rfl <;> simp
                  have d1 := As.dig (ns := names) (T := Tg names m) (ps := [.str "times"]) (k := "three") (j := j) (al := cp "123") (by decide +kernel) (by decide +kernel) rfl m3 j3 (q _)
                  exact fin _ _ _ _ _ rfl (by simp) d1 nis (by simp)
            · cases hj
          · cases hj
    · split at hh
      · rename_i hq
        cases hh
        obtain ⟨b, p, a⟩ := as_of_q (ns := names) (T := Tg names m) (nmT := fun d t => ∃ b p, Tg names m d t b p) tr [.str w] hk
        cases hl : TB.lookup w with
        | none =>
          rw [hl] at hq
          have : ps.length = 0 := by have h2 : (0 : Int) = ps.length := hq; omega
          exact absurd (List.eq_nil_of_length_eq_zero this) h0
        | some z =>
          rw [hl] at hq
          have hz : z = (ps.length : Int) := hq
          have hm := lookup_pair hl
          simp only [List.mem_cons, Prod.mk.injEq, List.not_mem_nil, or_false] at hm
          have one : z = 1 → ps.map (fun _ => D.str "question") = [.str "question"] := fun h => by
            have : ps.length = 1 := by omega
            match ps, this with
            | [x], _ => rfl
          have two : z = 2 → ps.map (fun _ => D.str "question") = [.str "question", .str "question"] := fun h => by
            have : ps.length = 2 := by omega
            match ps, this with
            | [x, y], _ => rfl
          have three : z = 3 → ps.map (fun _ => D.str "question") = [.str "question", .str "question", .str "question"] := fun h => by
            have : ps.length = 3 := by omega
            match ps, this with
            | [x, y, u], _ => rfl
          rcases hm with ⟨rfl, h⟩ | ⟨rfl, h⟩ | ⟨rfl, h⟩ | ⟨rfl, h⟩ | ⟨rfl, h⟩ | ⟨rfl, h⟩ | ⟨rfl, h⟩ | ⟨rfl, h⟩
          · rw [two h] at a; exact fin _ _ _ _ _ rfl (by omega) a nis rfl
          · rw [two h] at a; exact fin _ _ _ _ _ rfl (by omega) a nis rfl
          · rw [three h] at a; exact fin _ _ _ _ _ rfl (by omega) a nis rfl
          · rw [one h] at a; exact fin _ _ _ _ _ rfl (by omega) a nis rfl
          · rw [one h] at a; exact fin _ _ _ _ _ rfl (by omega) a nis rfl
          · rw [one h] at a; exact fin _ _ _ _ _ rfl (by omega) a nis rfl
          · rw [two h] at a; exact fin _ _ _ _ _ rfl (by omega) a nis rfl
          · rw [two h] at a; exact fin _ _ _ _ _ rfl (by omega) a nis rfl
      · cases hh
end My

set_option Elab.async false
set_option linter.all false
set_option maxRecDepth 100000
namespace My
open PySem L2 KR
theorem leaf_no40 {t : List Nat} (h : S' t = ("now" : Str) ∨ S' t = ("nothing" : Str)) : 40 ∉ t := by
  have e : ∀ w : Str, S' t = w → t = cp w := fun w e => by rw [← e]; simp [S']
  rcases h with h | h
  · rw [e _ h]; decide +kernel
  · rw [e _ h]; decide +kernel
theorem last_form {w r : List Nat} : ∃ a c, w ++ 40 :: r = a ++ [c] ∧ (c = 41 → ∃ mid, r = mid ++ [41]) := by
  cases hr : r with
  | nil => exact ⟨w, 40, rfl, fun h => by cases h⟩
  | cons x xs =>
    have ne : (x :: xs) ≠ [] := by simp
    have e := List.dropLast_concat_getLast ne
    refine ⟨w ++ 40 :: (x :: xs).dropLast, (x :: xs).getLast ne, ?_, fun h => ⟨(x :: xs).dropLast, ?_⟩⟩
    · conv => lhs; rw [← e]
      simp
    · rw [← h]; exact e.symm
theorem rdl_fun {cc : Nat → Cl} {names : List Str} {x : List Nat} {R R' : D} (h : RdL cc names x R) (h' : RdL cc names x R') : R = R' := by
  unfold RdL at h h'
  rw [h] at h'
  simpa using h'
/-- the law's reader is total and finds only what stands there -/
theorem law_sound {names : List Str} (hn : ∀ x ∈ names, ∀ c ∈ cp x, letter c) : ∀ (m n : Nat) (t : List Nat), t.length ≤ 10000000 → t.count 40 < m → ∃ R, RdL (call (m + n + 2)) names t R ∧ (R = .non ∨ ∃ b p, Tg names m R t b p) := by
  intro m
  induction m with
  | zero => intro n t _ h; omega
  | succ m ih =>
    intro n t hX hc
    rw [show m + 1 + n + 2 = (m + n + 2) + 1 by omega]
    have go : ∀ {R : D} {ρ : KR.Env}, b14 (call (m + n + 2)) [] [some (Tx t), some (NS names), none, none, none, none, none, none, none, none] = some (.ok (.ret (.val R)), ρ) → RdL (call (m + n + 2 + 1)) names t R := fun e => by
      unfold RdL
      rw [call14]
      exact run14 e
    by_cases hl : S' t = ("now" : Str) ∨ S' t = ("nothing" : Str)
    · obtain ⟨ρ, e⟩ := read_leaf (cc := call (m + n + 2)) (names := names) hl
      exact ⟨_, go e, .inr ⟨false, 1, .inl ⟨S' t, hl, rfl, by simp [S'], rfl, rfl⟩⟩⟩
    · rcases t_form t with h | ⟨w, r, rfl, hw⟩
      · obtain ⟨ρ, e⟩ := read_nobr (cc := call (m + n + 2)) (names := names) hl h
        exact ⟨_, go e, .inl rfl⟩
      · obtain ⟨a, c, ha, hc41⟩ := last_form (w := w) (r := r)
        by_cases q : c = 41
        · obtain ⟨mid, rfl⟩ := hc41 q
          have hmid : mid.length ≤ 10000000 := by
            rw [List.length_append, List.length_cons, List.length_append] at hX
            omega
          have hs := split_ok (n := m + n + 1) hmid
          have pr := prefix_run (cc := call (m + n + 2)) (names := names) (t := w ++ 40 :: (mid ++ [41])) (w := w) (mid := mid) rfl hX hl hw hs
          have hcm : mid.count 40 < m := by
            rw [List.count_append, List.count_cons_self, List.count_append] at hc
            omega
          cases hp : pieces mid with
          | none =>
            rw [hp] at pr
            obtain ⟨ρ, e⟩ := tail_none (t := w ++ 40 :: (mid ++ [41])) (names := names) (a := (w.length : Int)) (w := S' w) (cc := call (m + n + 2))
            exact ⟨.non, go (pr.trans e), .inl rfl⟩
          | some ps =>
            rw [hp] at pr
            obtain ⟨h0, hj⟩ := pieces_join hp
            have hcnt : ∀ x ∈ ps, x.count 40 < m ∧ x.length ≤ 10000000 := fun x hx => by
              have h1 := sg_count 40 44 ps x hx
              rw [hj 44, List.count_cons_of_ne (by decide)] at h1
              have h2 : x.length ≤ (sg 44 ps).length := by
                clear hj hp pr h1
                have : ∀ (c : Nat) (ps : List (List Nat)), ∀ x ∈ ps, x.length ≤ (sg c ps).length := by
                  intro c ps
                  induction ps generalizing c with
                  | nil => intro x h; cases h
                  | cons p ps ih2 =>
                    intro x h
                    show x.length ≤ (c :: p ++ sg 44 ps).length
                    rw [List.length_append, List.length_cons]
                    rcases List.mem_cons.mp h with e | e
                    · rw [e]; omega
                    · have := ih2 44 x e; omega
                exact this 44 ps x hx
              rw [hj 44, List.length_cons] at h2
              rw [List.length_append, List.length_cons, List.length_append, List.length_singleton] at hX
              exact ⟨by omega, by omega⟩
            have hk : ∀ x ∈ ps, ∃ R, RdL (call (m + n + 1 + 1)) names x R := fun x hx => by
              obtain ⟨R, e, _⟩ := ih n x (hcnt x hx).2 (hcnt x hx).1
              exact ⟨R, e⟩
            obtain ⟨R, ρ, e, hR⟩ := tail_all (k := m + n + 1) (t := w ++ 40 :: (mid ++ [41])) (names := names) (a := (w.length : Int)) (w := S' w) (ps := ps) hk (List.length_pos_iff.mpr h0)
            refine ⟨R, go (pr.trans e), ?_⟩
            rcases hR with ⟨_, hR⟩ | ⟨H, kids, hh, ⟨hR, _⟩ | ⟨Rs, k2, hR⟩⟩
            · exact .inl hR
            · exact .inl hR
            · right
              subst hR
              have hsub : ∀ x ∈ kids, x ∈ ps := by
                unfold headF at hh
                split at hh
                · split at hh
                  · split at hh
                    · cases hh; intro x hx; cases hx
                    · cases hh
                  · cases hh
                · split at hh
                  · split at hh
                    · cases hh
                    · cases hh; exact fun x hx => List.mem_of_mem_drop hx
                  · split at hh
                    · cases hh; exact fun x hx => hx
                    · cases hh
              have k3 : K2 (fun x R => ∃ b p, Tg names m R x b p) kids Rs := k2.imp fun x hx R ⟨h1, h2⟩ => by
                obtain ⟨R', e', h'⟩ := ih n x (hcnt x (hsub x hx)).2 (hcnt x (hsub x hx)).1
                have := rdl_fun h1 e'
                subst this
                exact h'.resolve_left h2
              obtain ⟨b, p, tg⟩ := node_of hn hh h0 k3
              refine ⟨b, p, ?_⟩
              have : cp (S' w) ++ (sg 40 ps ++ [41]) = w ++ 40 :: (mid ++ [41]) := by
                rw [hj 40]
                simp [S']
              rwa [this] at tg
        · have hf : Txt.find (S' (w ++ 40 :: r)) ("(" : Str) = (w.length : Int) := find_at hw
          obtain ⟨ρ, e⟩ := read_last (cc := call (m + n + 2)) (names := names) (t := w ++ 40 :: r) ha hX hl hf q
          exact ⟨.non, go e, .inl rfl⟩
end My

set_option Elab.async false
set_option linter.all false
set_option maxRecDepth 100000
namespace My
open PySem L2 KR
/-! ### the law's reader finds what stands there -/
section
variable {ns : List Str} {T : D → List Nat → Bool → Int → Prop} {ps ks ds : List D} {ts : List (List Nat)} {b nm : Bool} {p : Int}
theorem inv_nil (h : As ns T ps [] ds ts b nm p) : ds = [] ∧ ts = [] := by cases h; exact ⟨rfl, rfl⟩
theorem inv_q (h : As ns T ps (.str "question" :: ks) ds ts b nm p) : ∃ d t ds' ts' b1 p1 b2 p2, ds = d :: ds' ∧ ts = t :: ts' ∧ T d t b1 p1 ∧ As ns T (ps ++ [d]) ks ds' ts' b2 nm p2 := by
  generalize hk : D.str "question" :: ks = K at h
  cases h with
  | nil => cases hk
  | q h1 h2 => cases hk; exact ⟨_, _, _, _, _, _, _, _, rfl, rfl, h1, h2⟩
  | name _ _ => injection hk with e _; exact absurd (D.str.inj e).symm qn
  | dig h1 _ _ _ _ _ => injection hk with e _; exact absurd (D.str.inj e).symm h1
theorem inv_name (h : As ns T ps [.str "name"] ds ts b nm p) : ∃ x, x ∈ ns ∧ ds = [.str x] ∧ ts = [cp x] := by
  generalize hk : [D.str "name"] = K at h
  cases h with
  | nil => cases hk
  | q h1 h2 => injection hk with e _; exact absurd (D.str.inj e) qn
  | name hx _ => exact ⟨_, hx, rfl, rfl⟩
  | dig _ h2 _ _ _ _ => injection hk with e _; exact absurd (D.str.inj e).symm h2
theorem inv_dig {k : Str} (n1 : k ≠ "question") (n2 : k ≠ "name") (h : As ns T ps (.str k :: ks) ds ts b nm p) : ∃ (j : Nat) (al : List Nat) (ds' : List D) (ts' : List (List Nat)) (b' : Bool) (p' : Int), allow k ps = some al ∧ 48 + j ∈ al ∧ j ≤ 3 ∧ ds = .int j :: ds' ∧ ts = [48 + j] :: ts' ∧ As ns T (ps ++ [.int j]) ks ds' ts' b' nm p' := by
  generalize hk : D.str k :: ks = K at h
  cases h with
  | nil => cases hk
  | q h1 h2 => injection hk with e _; exact absurd (D.str.inj e) n1
  | name _ _ => injection hk with e _; exact absurd (D.str.inj e) n2
  | dig h1 h2 ha hm hj hr =>
    injection hk with e e2
    cases D.str.inj e
    subst e2
    exact ⟨_, _, _, _, _, _, ha, hm, hj, rfl, rfl, hr⟩
end
abbrev KT (T : D → List Nat → Bool → Int → Prop) : List Nat → D → Prop := fun x R => ∃ b p, T R x b p
theorem head_of {names : List Str} {T : D → List Nat → Bool → Int → Prop} {w : Str} {ks ds : List D} {ts : List (List Nat)} {b nm : Bool} {p : Int} (hs : tb_SHAPES.lookup w = some (.tup ks)) (ha : As names T [.str w] ks ds ts b nm p) :
    ∃ H kids Rs, headF names w ts = some (H, kids) ∧ K2 (KT T) kids Rs ∧ H ++ Rs = .str w :: ds := by
  have hm := lookup_pair hs
  have e : tb_SHAPES = ([("is", .tup [.str "name"]), ("less", .tup [.str "question", .str "question"]), ("same", .tup [.str "question", .str "question"]), ("if", .tup [.str "question", .str "question", .str "question"]), ("last", .tup [.str "question"]), ("first", .tup [.str "question"]), ("before", .tup [.str "question"]), ("great", .tup [.str "two", .str "question"]), ("least", .tup [.str "two", .str "question"]), ("times", .tup [.str "three", .str "question"]), ("circle", .tup [.str "circle", .str "rest", .str "question"]), ("since", .tup [.str "question", .str "question"]), ("among", .tup [.str "question", .str "question"])] : List (Str × D)) := rfl
  rw [e] at hm
  have q1 : ∀ (w : Str), w ≠ "is" → w ∉ NUMS → (TB.lookup w).getD 0 = 1 → As names T [.str w] [.str "question"] ds ts b nm p → ∃ H kids Rs, headF names w ts = some (H, kids) ∧ K2 (KT T) kids Rs ∧ H ++ Rs = .str w :: ds := by
    intro w h1 h2 h3 a
    obtain ⟨d1, t1, ds1, ts1, b1, p1, _, _, rfl, rfl, g1, a⟩ := inv_q a
    obtain ⟨rfl, rfl⟩ := inv_nil a
    refine ⟨[.str w], [t1], [d1], ?_, .cons ⟨_, _, g1⟩ .nil, rfl⟩
    unfold headF
    rw [if_neg h1, if_neg h2, h3]
    rfl
  have q2 : ∀ (w : Str), w ≠ "is" → w ∉ NUMS → (TB.lookup w).getD 0 = 2 → As names T [.str w] [.str "question", .str "question"] ds ts b nm p → ∃ H kids Rs, headF names w ts = some (H, kids) ∧ K2 (KT T) kids Rs ∧ H ++ Rs = .str w :: ds := by
    intro w h1 h2 h3 a
    obtain ⟨d1, t1, ds1, ts1, b1, p1, _, _, rfl, rfl, g1, a⟩ := inv_q a
    obtain ⟨d2, t2, ds2, ts2, b2, p2, _, _, rfl, rfl, g2, a⟩ := inv_q a
    obtain ⟨rfl, rfl⟩ := inv_nil a
    refine ⟨[.str w], [t1, t2], [d1, d2], ?_, .cons ⟨_, _, g1⟩ (.cons ⟨_, _, g2⟩ .nil), rfl⟩
    unfold headF
    rw [if_neg h1, if_neg h2, h3]
    rfl
  have dg : ∀ (w k : Str) (al : Str), w ≠ "is" → w ∈ NUMS → w ≠ "circle" → k ≠ "question" → k ≠ "name" → allow k [.str w] = some (cp al) → (∀ j : Nat, 48 + j ∈ cp al → j = 1 ∨ j = 2 ∨ (w = "times" ∧ j = 3)) → As names T [.str w] [.str k, .str "question"] ds ts b nm p → ∃ H kids Rs, headF names w ts = some (H, kids) ∧ K2 (KT T) kids Rs ∧ H ++ Rs = .str w :: ds := by
    intro w k al h1 h2 h3 h4 h5 h6 h7 a
    obtain ⟨j, al', ds1, ts1, _, _, ha', hmj, _, rfl, rfl, a'⟩ := inv_dig h4 h5 a
    obtain ⟨d2, t2, ds2, ts2, b2, p2, _, _, rfl, rfl, g2, a2⟩ := inv_q a'
    obtain ⟨rfl, rfl⟩ := inv_nil a2
    rw [h6] at ha'
    cases ha'
    have hj := h7 j hmj
    refine ⟨[.str w, .int j], [t2], [d2], ?_, .cons ⟨_, _, g2⟩ .nil, rfl⟩
    unfold headF numF
    rw [if_neg h1, if_pos h2, if_neg h3]
    dsimp only
    rcases hj with rfl | rfl | ⟨ht, rfl⟩
    · simp
    · simp
    · simp [ht]
  simp only [List.mem_cons, Prod.mk.injEq, List.not_mem_nil, or_false] at hm
  rcases hm with ⟨rfl, h⟩ | ⟨rfl, h⟩ | ⟨rfl, h⟩ | ⟨rfl, h⟩ | ⟨rfl, h⟩ | ⟨rfl, h⟩ | ⟨rfl, h⟩ | ⟨rfl, h⟩ | ⟨rfl, h⟩ | ⟨rfl, h⟩ | ⟨rfl, h⟩ | ⟨rfl, h⟩ | ⟨rfl, h⟩ <;> cases h
  · obtain ⟨x, hx, rfl, rfl⟩ := inv_name ha
    refine ⟨[.str "is", .str x], [], [], ?_, .nil, rfl⟩
    unfold headF
    rw [if_pos rfl]
    dsimp only
    rw [S_toList, if_pos hx]
  · exact q2 _ (by decide +kernel) (by decide +kernel) (by decide +kernel) ha
  · exact q2 _ (by decide +kernel) (by decide +kernel) (by decide +kernel) ha
  · obtain ⟨d1, t1, ds1, ts1, b1, p1, _, _, rfl, rfl, g1, a⟩ := inv_q ha
    obtain ⟨d2, t2, ds2, ts2, b2, p2, _, _, rfl, rfl, g2, a⟩ := inv_q a
    obtain ⟨d3, t3, ds3, ts3, b3, p3, _, _, rfl, rfl, g3, a⟩ := inv_q a
    obtain ⟨rfl, rfl⟩ := inv_nil a
    refine ⟨[.str "if"], [t1, t2, t3], [d1, d2, d3], ?_, .cons ⟨_, _, g1⟩ (.cons ⟨_, _, g2⟩ (.cons ⟨_, _, g3⟩ .nil)), rfl⟩
    unfold headF
    rw [if_neg (by decide +kernel), if_neg (by decide +kernel), show (TB.lookup ("if" : Str)).getD 0 = 3 by decide +kernel]
    rfl
  · exact q1 _ (by decide +kernel) (by decide +kernel) (by decide +kernel) ha
  · exact q1 _ (by decide +kernel) (by decide +kernel) (by decide +kernel) ha
  · exact q1 _ (by decide +kernel) (by decide +kernel) (by decide +kernel) ha
  · have c12 : cp "12" = [49, 50] := by decide +kernel
    exact dg _ _ "12" (by decide +kernel) (by decide +kernel) (by decide +kernel) (by decide +kernel) (by decide +kernel) rfl (fun j hj => by rw [c12] at hj; simp at hj; omega) ha
  · have c12 : cp "12" = [49, 50] := by decide +kernel
    exact dg _ _ "12" (by decide +kernel) (by decide +kernel) (by decide +kernel) (by decide +kernel) (by decide +kernel) rfl (fun j hj => by rw [c12] at hj; simp at hj; omega) ha
  · have c123 : cp "123" = [49, 50, 51] := by decide +kernel
    exact dg _ _ "123" (by decide +kernel) (by decide +kernel) (by decide +kernel) (by decide +kernel) (by decide +kernel) rfl (fun j hj => by
      rw [c123] at hj
      simp at hj
      rcases (show j = 1 ∨ j = 2 ∨ j = 3 by omega) with h | h | h
      · exact .inl h
      · exact .inr (.inl h)
      · exact .inr (.inr ⟨rfl, h⟩)) ha
  · obtain ⟨j, al, ds1, ts1, _, _, ha1, hm1, _, rfl, rfl, a1⟩ := inv_dig (by decide +kernel) (by decide +kernel) ha
    obtain ⟨i, al2, ds2, ts2, _, _, ha2, hm2, _, rfl, rfl, a2⟩ := inv_dig (by decide +kernel) (by decide +kernel) a1
    obtain ⟨d3, t3, ds3, ts3, b3, p3, _, _, rfl, rfl, g3, a3⟩ := inv_q a2
    obtain ⟨rfl, rfl⟩ := inv_nil a3
    have c23 : cp "23" = [50, 51] := by decide +kernel
    have hal : al = [50, 51] := by
      have : allow "circle" [.str "circle"] = some (cp "23") := rfl
      rw [this, c23] at ha1
      cases ha1; rfl
    subst hal
    have hj : j = 2 ∨ j = 3 := by simp at hm1; omega
    refine ⟨[.str "circle", .int j, .int i], [t3], [d3], ?_, .cons ⟨_, _, g3⟩ .nil, rfl⟩
    unfold headF numF
    rw [if_neg (by decide +kernel), if_pos (by decide +kernel), if_pos rfl]
    dsimp only
    rcases hj with rfl | rfl
    · have : al2 = [48, 49] := by
        have h2 : allow "rest" ([.str "circle"] ++ [.int (2 : Nat)]) = some [48, 49] := rfl
        rw [h2] at ha2
        cases ha2; rfl
      subst this
      have hi : i = 0 ∨ i = 1 := by simp at hm2; omega
      rcases hi with rfl | rfl <;> simp
    · have : al2 = [48, 49, 50] := by
        have h2 : allow "rest" ([.str "circle"] ++ [.int (3 : Nat)]) = some [48, 49, 50] := rfl
        rw [h2] at ha2
        cases ha2; rfl
      subst this
      have hi : i = 0 ∨ i = 1 ∨ i = 2 := by simp at hm2; omega
      rcases hi with rfl | rfl | rfl <;> simp
  · exact q2 _ (by decide +kernel) (by decide +kernel) (by decide +kernel) ha
  · exact q2 _ (by decide +kernel) (by decide +kernel) (by decide +kernel) ha
end My

set_option Elab.async false
set_option linter.all false
set_option maxRecDepth 100000
namespace My
open PySem L2 KR
theorem plain_letters {w : List Nat} (h : ∀ c ∈ w, letter c) : ∀ c ∈ w, c ≠ 40 ∧ c ≠ 41 ∧ c ≠ 44 := fun c hc =>
  ⟨fun e => letter_no.2.2 (e ▸ h c hc), fun e => letter_no.2.1 (e ▸ h c hc), fun e => letter_no.1 (e ▸ h c hc)⟩
theorem as_bal {ns : List Str} {T : D → List Nat → Bool → Int → Prop} {ps ks ds : List D} {ts : List (List Nat)} {b nm : Bool} {p : Int} (h : As ns T ps ks ds ts b nm p) (hT : ∀ d t b p, T d t b p → Bal t) : ∀ t ∈ ts, Bal t := by
  induction h with
  | nil ps => intro t ht; cases ht
  | q h1 h2 ih =>
    intro t ht
    rcases List.mem_cons.mp ht with e | e
    · rw [e]; exact hT _ _ _ _ h1
    · exact ih t e
  | name hx hw =>
    intro t ht
    rw [List.mem_singleton.mp ht]
    exact bal_plain _ (plain_letters hw)
  | dig h1 h2 ha hm hj hr ih =>
    intro t ht
    rcases List.mem_cons.mp ht with e | e
    · rw [e]
      exact bal_plain _ fun c hc => by
        rw [List.mem_singleton.mp hc]
        exact ⟨by omega, by omega, by omega⟩
    · exact ih t e
theorem tg_bal {ns : List Str} : ∀ (m : Nat) (d : D) (t : List Nat) (b : Bool) (p : Int), Tg ns m d t b p → Bal t := by
  intro m
  induction m with
  | zero => intro d t b p h; exact h.elim
  | succ m ih =>
    intro d t b p h
    rcases h with ⟨w, hw, rfl, rfl, rfl, rfl⟩ | ⟨w, ks, ds, ts, b2, p2, hs, h0, h3, ha, rfl, rfl, rfl, rfl⟩
    · exact bal_plain _ (plain_letters (by rcases hw with rfl | rfl <;> decide +kernel))
    · exact bal_node (plain_letters (shape_ok hs).1) h0 (as_bal ha ih)
theorem pieces_of {t : List Nat} {ts : List (List Nat)} (h : ∀ x ∈ t :: ts, Bal x) : pieces (t ++ sg 44 ts) = some (t :: ts) := by
  unfold pieces
  obtain ⟨P', s', e, e2⟩ := scan_top ts (fun x hx => h x (List.mem_cons_of_mem _ hx)) [] t
  rw [h t List.mem_cons_self, List.nil_append, e]
  exact congrArg some e2
theorem k2_mem {P : List Nat → D → Prop} {xs : List (List Nat)} {Rs : List D} (h : K2 P xs Rs) : ∀ x ∈ xs, ∃ R, P x R := by
  induction h with
  | nil => intro x hx; cases hx
  | cons h1 h2 ih =>
    intro x hx
    rcases List.mem_cons.mp hx with e | e
    · rw [e]; exact ⟨_, h1⟩
    · exact ih x e
theorem k2_eq {P Q : List Nat → D → Prop} {xs : List (List Nat)} {Rs Rs' : List D} (h : K2 P xs Rs) (h' : K2 Q xs Rs') (e : ∀ x ∈ xs, ∀ R R', P x R → Q x R' → R = R') : Rs = Rs' := by
  induction h generalizing Rs' with
  | nil => cases h'; rfl
  | cons h1 h2 ih =>
    cases h' with
    | cons g1 g2 => rw [e _ List.mem_cons_self _ _ h1 g1, ih g2 fun x hx => e x (List.mem_cons_of_mem _ hx)]
theorem head_sub {names : List Str} {w : Str} {ps kids : List (List Nat)} {H : List D} (hh : headF names w ps = some (H, kids)) : ∀ x ∈ kids, x ∈ ps := by
  unfold headF at hh
  split at hh
  · split at hh
    · split at hh
      · cases hh; intro x hx; cases hx
      · cases hh
    · cases hh
  · split at hh
    · split at hh
      · cases hh
      · cases hh; exact fun x hx => List.mem_of_mem_drop hx
    · split at hh
      · cases hh; exact fun x hx => hx
      · cases hh
theorem sg_le : ∀ (c : Nat) (ps : List (List Nat)), ∀ x ∈ ps, x.length ≤ (sg c ps).length
  | c, [], x, h => by cases h
  | c, p :: ps, x, h => by
    show x.length ≤ (c :: p ++ sg 44 ps).length
    rw [List.length_append, List.length_cons]
    rcases List.mem_cons.mp h with e | e
    · rw [e]; omega
    · have := sg_le 44 ps x e; omega
/-- the law's reader finds every tree -/
theorem law_complete {names : List Str} (hn : ∀ x ∈ names, ∀ c ∈ cp x, letter c) : ∀ (m M n : Nat) (d : D) (t : List Nat) (b : Bool) (p : Int), Tg names m d t b p → t.length ≤ 10000000 → t.count 40 < M → RdL (call (M + n + 2)) names t d := by
  intro m
  induction m with
  | zero => intro M n d t b p h; exact h.elim
  | succ m ih =>
    intro M n d t b p h hX hc
    cases M with
    | zero => omega
    | succ M =>
    rw [show M + 1 + n + 2 = (M + n + 2) + 1 by omega]
    have go : ∀ {R : D} {ρ : KR.Env}, b14 (call (M + n + 2)) [] [some (Tx t), some (NS names), none, none, none, none, none, none, none, none] = some (.ok (.ret (.val R)), ρ) → RdL (call (M + n + 2 + 1)) names t R := fun e => by
      unfold RdL
      rw [call14]
      exact run14 e
    rcases h with ⟨w, hw, rfl, rfl, rfl, rfl⟩ | ⟨w, ks, ds, ts, b2, p2, hs, h0, h3, ha, rfl, rfl, rfl, rfl⟩
    · have hl : S' (cp w) = ("now" : Str) ∨ S' (cp w) = ("nothing" : Str) := by rw [S_toList]; exact hw
      obtain ⟨ρ, e⟩ := read_leaf (cc := call (M + n + 2)) (names := names) hl
      rw [S_toList] at e
      exact go e
    · cases ts with
      | nil => exact absurd rfl h0
      | cons t0 ts =>
      obtain ⟨hl, _⟩ := shape_ok hs
      have hw40 : 40 ∉ cp w := fun h => (plain_letters hl 40 h).1 rfl
      have et : cp w ++ (sg 40 (t0 :: ts) ++ [41]) = cp w ++ 40 :: ((t0 ++ sg 44 ts) ++ [41]) := by simp [sg]
      have hnl : ¬ (S' (cp w ++ (sg 40 (t0 :: ts) ++ [41])) = ("now" : Str) ∨ S' (cp w ++ (sg 40 (t0 :: ts) ++ [41])) = ("nothing" : Str)) := fun h => leaf_no40 h (by rw [et]; simp)
      have hmid : (t0 ++ sg 44 ts).length ≤ 10000000 := by
        rw [et, List.length_append, List.length_cons, List.length_append] at hX
        omega
      have hsp := split_ok (n := M + n + 1) hmid
      have hbal := as_bal ha (tg_bal m)
      rw [pieces_of hbal] at hsp
      have pr := prefix_run (cc := call (M + n + 2)) (names := names) (w := cp w) (mid := t0 ++ sg 44 ts) et hX hnl hw40 hsp
      rw [S_toList] at pr
      have hcm : (t0 ++ sg 44 ts).count 40 < M := by
        rw [et, List.count_append, List.count_cons_self, List.count_append] at hc
        omega
      have hcnt : ∀ x ∈ t0 :: ts, x.count 40 < M ∧ x.length ≤ 10000000 := fun x hx => by
        have h1 := sg_count 40 44 (t0 :: ts) x hx
        have h2 := sg_le 44 (t0 :: ts) x hx
        have e1 : sg 44 (t0 :: ts) = 44 :: (t0 ++ sg 44 ts) := rfl
        rw [e1, List.count_cons_of_ne (by decide)] at h1
        rw [e1, List.length_cons] at h2
        rw [et, List.length_append, List.length_cons, List.length_append (as := t0 ++ sg 44 ts), List.length_singleton] at hX
        exact ⟨by omega, by omega⟩
      have hk : ∀ x ∈ t0 :: ts, ∃ R, RdL (call (M + n + 1 + 1)) names x R := fun x hx => by
        obtain ⟨R, e, _⟩ := law_sound hn M n x (hcnt x hx).2 (hcnt x hx).1
        exact ⟨R, e⟩
      obtain ⟨R, ρ, e, hR⟩ := tail_all (k := M + n + 1) (t := cp w ++ (sg 40 (t0 :: ts) ++ [41])) (names := names) (a := ((cp w).length : Int)) (w := w) (ps := t0 :: ts) hk (by simp)
      obtain ⟨H, kids, Rs0, hh, k0, hd⟩ := head_of hs ha
      have hres := go (pr.trans e)
      have hid : ∀ x ∈ kids, ∀ R, KT (Tg names m) x R → RdL (call (M + n + 1 + 1)) names x R := fun x hx R ⟨b, p, hT⟩ => ih M n R x b p hT (hcnt x (head_sub hh x hx)).2 (hcnt x (head_sub hh x hx)).1
      rcases hR with ⟨hR, _⟩ | ⟨H', kids', hh', hR⟩
      · rw [hh] at hR; cases hR
      · rw [hh] at hh'
        cases hh'
        rcases hR with ⟨_, x, hx, hz⟩ | ⟨Rs, k2, hR⟩
        · obtain ⟨R1, hT⟩ := k2_mem k0 x hx
          have h1 := rdl_fun hz (hid x hx R1 hT)
          obtain ⟨b1, p1, hT⟩ := hT
          have := (tg_tup hT).2
          rw [← h1] at this
          cases this
        · have : Rs0 = Rs := k2_eq k0 k2 fun x hx R R' h1 h2 => rdl_fun (hid x hx R h1) h2.1
          subst this
          rw [hR, hd] at hres
          exact hres
end My

set_option Elab.async false
set_option linter.all false
set_option maxRecDepth 100000
namespace My
open PySem L2 KR
theorem as_pl {ns : List Str} {T : D → List Nat → Bool → Int → Prop} {ps ks ds : List D} {ts : List (List Nat)} {b nm : Bool} {p : Int} {m : Nat} (h : As ns T ps ks ds ts b nm p) (hT : ∀ d t b p, T d t b p → Pl m d) : ∀ d ∈ ds, Pl m d := by
  induction h with
  | nil => intro d hd; cases hd
  | q h1 _ ih => exact fun d hd => (List.mem_cons.mp hd).elim (fun e => by rw [e]; exact hT _ _ _ _ h1) (ih d)
  | name hx _ => exact fun d hd => by rw [List.mem_singleton] at hd; rw [hd]; exact .str _ _
  | dig _ _ _ _ hj _ ih => exact fun d hd => (List.mem_cons.mp hd).elim (fun e => by rw [e]; exact .int _ _) (ih d)
theorem as_dlen {ns : List Str} {T : D → List Nat → Bool → Int → Prop} {ps ks ds : List D} {ts : List (List Nat)} {b nm : Bool} {p : Int} (h : As ns T ps ks ds ts b nm p) : ds.length = ts.length := by
  induction h with
  | nil => rfl
  | q _ _ ih => rw [List.length_cons, List.length_cons, ih]
  | name _ _ => rfl
  | dig _ _ _ _ _ _ ih => rw [List.length_cons, List.length_cons, ih]
theorem tg_pl {ns : List Str} : ∀ (m : Nat) (d : D) (t : List Nat) (b : Bool) (p : Int), Tg ns m d t b p → Pl m d
  | 0, _, _, _, _, h => h.elim
  | m + 1, d, t, b, p, h => by
    rcases h with ⟨w, hw, rfl, rfl, rfl, rfl⟩ | ⟨w, ks, ds, ts, b2, p2, hs, h0, h3, ha, rfl, rfl, rfl, rfl⟩
    · exact .tup _ _ (by simp) fun d hd => by rw [List.mem_singleton] at hd; rw [hd]; exact .str _ _
    · have n3 := as_dlen ha
      refine .tup _ _ (by rw [List.length_cons]; omega) fun d hd => ?_
      rcases List.mem_cons.mp hd with e | e
      · rw [e]; exact .str _ _
      · exact as_pl ha (fun d t b p h => tg_pl m d t b p h) d e
/-- the two readers agree at every text -/
theorem agree {names : List Str} (hn : ∀ x ∈ names, ∀ c ∈ cp x, letter c) {t : List Nat} (ht : t.length ≤ 10000000) (hc : t.count 40 < 27) :
    ∃ R, call 59 3 [Tx t, NS names] = some (.ok (.val R), [Tx t, NS names]) ∧ call 59 14 [Tx t, NS names] = some (.ok (.val R), [Tx t, NS names]) ∧ call 59 6 [.val R, .val R] = some (.ok (.val (.bl true)), [.val R, .val R]) := by
  obtain ⟨R, e, hR⟩ := law_sound hn 27 30 t ht hc
  rcases hR with rfl | ⟨b, p, hT⟩
  · obtain ⟨R', e', hR'⟩ := read_question_sound (t := t) ht (names := names) (m := 27) (n := 3) hc
    rcases hR' with rfl | ⟨b, p, hT⟩
    · exact ⟨.non, e', e, equal_non (n := 58)⟩
    · have e2 := law_complete hn 27 27 30 R' t b p hT ht hc
      have := rdl_fun e e2
      subst this
      have := (tg_tup hT).2
      cases this
  · have q1 := read_question_ok (ns := names) (names := names) (ok := true) (fun x h => decide_eq_true h) (m := 27) (n := 3) hT ht
    have bt : (b && !true) = false := by cases b <;> rfl
    rw [bt, if_neg Bool.false_ne_true] at q1
    exact ⟨R, q1, e, equal_pl 27 31 R (tg_pl 27 R t b p hT)⟩
theorem tg_count {ns : List Str} (hn : ∀ x ∈ ns, ∀ c ∈ cp x, letter c) : ∀ (m : Nat) (d : D) (t : List Nat) (b : Bool) (p : Int), Tg ns m d t b p → (t.count 40 : Int) ≤ p := by
  have pl : ∀ w : List Nat, (∀ c ∈ w, letter c) → w.count 40 = 0 := fun w h => List.count_eq_zero.mpr fun hm => (plain_letters h 40 hm).1 rfl
  have ha : ∀ {T : D → List Nat → Bool → Int → Prop} {ps ks ds : List D} {ts : List (List Nat)} {b nm : Bool} {p : Int}, As ns T ps ks ds ts b nm p → (∀ d t b p, T d t b p → (t.count 40 : Int) ≤ p) → ((sg 44 ts).count 40 : Int) ≤ p := by
    intro T ps ks ds ts b nm p h hT
    induction h with
    | nil => exact Int.le_refl _
    | @q ps ks ds ts b b2 nm p p2 d t h1 h2 ih =>
      have := hT _ _ _ _ h1
      show ((44 :: t ++ sg 44 ts).count 40 : Int) ≤ _
      rw [List.count_append, List.count_cons_of_ne (by decide)]
      omega
    | @name ps x hx hw =>
      show ((44 :: cp x ++ []).count 40 : Int) ≤ _
      rw [List.append_nil, List.count_cons_of_ne (by decide), pl _ hw]
      exact Int.le_refl _
    | @dig ps ks ds ts b nm p k j al h1 h2 ha hm hj hr ih =>
      show ((44 :: [48 + j] ++ sg 44 ts).count 40 : Int) ≤ _
      rw [List.count_append, List.count_cons_of_ne (by decide), List.count_cons_of_ne (by omega)]
      simpa using ih
  intro m
  induction m with
  | zero => intro d t b p h; exact h.elim
  | succ m ih =>
    intro d t b p h
    rcases h with ⟨w, hw, rfl, rfl, rfl, rfl⟩ | ⟨w, ks, ds, ts, b2, p2, hs, h0, h3, has, rfl, rfl, rfl, rfl⟩
    · rw [pl _ (by rcases hw with rfl | rfl <;> decide +kernel)]; decide
    · have h1 := ha has ih
      cases ts with
      | nil => exact absurd rfl h0
      | cons t0 ts =>
        have e1 : sg 44 (t0 :: ts) = 44 :: (t0 ++ sg 44 ts) := rfl
        have e2 : cp w ++ (sg 40 (t0 :: ts) ++ [41]) = cp w ++ 40 :: ((t0 ++ sg 44 ts) ++ [41]) := by simp [sg]
        rw [e1, List.count_cons_of_ne (by decide)] at h1
        rw [e2, List.count_append, pl _ (shape_ok hs).1, List.count_cons_self, List.count_append, show [41].count 40 = 0 from rfl]
        omega
/-! ### cuts -/
theorem c_pre {X : List Nat} (hX : X.length ≤ 10000000) {k : Nat} : gsl none (some (k : Int)) (.str (S' X)) = some (.str (S' (X.take k))) := by
  unfold gsl
  dsimp only
  rw [S_len, if_pos (by rw [size_line]; omega)]
  have e : (S' X).cps.toList = X := by simp [S']
  unfold cutS
  rw [e, S_len, HT.sIx_none, HT.sIx_nat, List.drop_zero, Nat.sub_zero]
  have : X.take (min k X.length) = X.take k := by
    by_cases q : k ≤ X.length
    · rw [Nat.min_eq_left q]
    · rw [Nat.min_eq_right (by omega), List.take_length, List.take_of_length_le (by omega)]
  rw [this]
  rfl
theorem c_suf {X : List Nat} (hX : X.length ≤ 10000000) {k : Nat} : gsl (some (k : Int)) none (.str (S' X)) = some (.str (S' (X.drop k))) := by
  unfold gsl
  dsimp only
  rw [S_len, if_pos (by rw [size_line]; omega)]
  have e : (S' X).cps.toList = X := by simp [S']
  unfold cutS
  rw [e, S_len, HT.sIx_none, HT.sIx_nat]
  have : X.drop (min k X.length) = X.drop k := by
    by_cases q : k ≤ X.length
    · rw [Nat.min_eq_left q]
    · rw [Nat.min_eq_right (by omega), List.drop_length, List.drop_of_length_le (by omega)]
  rw [this, List.take_of_length_le (by rw [List.length_drop]; omega)]
  rfl
theorem c_mid {X : List Nat} (hX : X.length ≤ 10000000) {k s : Nat} (hk : k ≤ X.length) : gsl (some (k : Int)) (some ((k + s : Nat) : Int)) (.str (S' X)) = some (.str (S' ((X.drop k).take s))) := by
  unfold gsl
  dsimp only
  rw [S_len, if_pos (by rw [size_line]; omega)]
  have e : (S' X).cps.toList = X := by simp [S']
  unfold cutS
  rw [e, S_len, HT.sIx_nat, HT.sIx_nat, Nat.min_eq_left hk]
  have : (X.drop k).take (min (k + s) X.length - k) = (X.drop k).take s := by
    by_cases q : k + s ≤ X.length
    · rw [Nat.min_eq_left q, show k + s - k = s by omega]
    · rw [Nat.min_eq_right (by omega), List.take_of_length_le (by rw [List.length_drop]; omega), List.take_of_length_le (by rw [List.length_drop]; omega)]
  rw [this]
  rfl
end My

set_option Elab.async false
set_option linter.all false
set_option maxRecDepth 100000
namespace My
open PySem L2 KR
/-! ### texts are changed -/
abbrev WS : List Str := ["now", "nothing", "last(now)", "less", "if(", ")", "(", ",", " ", "0", "1", "2", "3", "4", "is(", "times(3,", "circle(2,1,", "circle(3,2,now)", "great(2,", "A", "-", "among(now,now)", "before"]
theorem ws_ok : ∀ w ∈ WS, (cp w).length ≤ 15 ∧ (cp w).count 40 ≤ 1 := by decide +kernel
theorem word_ok {names : List Str} (hn : Nm names) : ∀ w ∈ WS ++ names, (cp w).length ≤ 15 ∧ (cp w).count 40 ≤ 1 := fun w hw => by
  rcases List.mem_append.mp hw with h | h
  · exact ws_ok w h
  · refine ⟨by have := hn.l w h; omega, ?_⟩
    rw [List.count_eq_zero.mpr fun hm => (plain_letters (hn.w w h) 40 hm).1 rfl]
    omega
theorem gadd_3 {a b : List Nat} (h : a.length + b.length ≤ 10000000) : gadd (.str (S' a)) (.str (S' b)) = some (.str (S' (a ++ b))) := gadd_S (by omega)
/-- what a change leaves -/
theorem cnt_take {x : List Nat} {i : Nat} : (x.take i).count 40 + (x.drop i).count 40 = x.count 40 := by
  rw [← List.count_append, List.take_append_drop]
theorem len_take {x : List Nat} {i : Nat} : (x.take i).length + (x.drop i).length = x.length := by
  rw [← List.length_append, List.take_append_drop]
theorem cnt_mid {x : List Nat} {i s : Nat} (hs : s ≤ 4) : ((x.drop i).take s).count 40 ≤ 4 ∧ ((x.drop i).take s).length ≤ 4 := by
  have h1 := List.count_le_length (a := 40) (l := (x.drop i).take s)
  have h2 : ((x.drop i).take s).length ≤ s := List.length_take_le ..
  omega
theorem cnt_far {x : List Nat} {i s : Nat} : (x.drop (i + s)).count 40 ≤ (x.drop i).count 40 ∧ (x.drop (i + s)).length ≤ (x.drop i).length := by
  rw [← List.drop_drop]
  exact ⟨(List.drop_sublist _ _).count_le _, (List.drop_sublist _ _).length_le⟩
def chg (x : List Nat) (w : List Nat) (i s : Nat) (z : Int) : List Nat :=
  if z = 0 then x.take i ++ x.drop (i + s) else if z = 1 then x.take i ++ (x.drop i).take s ++ x.drop i else if z = 2 then x.take i ++ w ++ x.drop i else x.take i ++ w ++ x.drop (i + s)
theorem chg_ok {x w : List Nat} {i s : Nat} {z : Int} (hs : s ≤ 4) (hw : w.length ≤ 15) (hc : w.count 40 ≤ 1) : (chg x w i s z).length ≤ x.length + 15 ∧ (chg x w i s z).count 40 ≤ x.count 40 + 4 := by
  have a1 := cnt_take (x := x) (i := i)
  have a2 := len_take (x := x) (i := i)
  have a3 := cnt_mid (x := x) (i := i) hs
  have a4 := cnt_far (x := x) (i := i) (s := s)
  unfold chg
  split
  · rw [List.length_append, List.count_append]; omega
  · split
    · rw [List.length_append, List.length_append, List.count_append, List.count_append]; omega
    · split
      · rw [List.length_append, List.length_append, List.count_append, List.count_append]; omega
      · rw [List.length_append, List.length_append, List.count_append, List.count_append]; omega
theorem chg_end {S0 nm L : RV} {x : List Nat} {w : Str} {i s : Nat} {z : Int} {lk : List Nat} (hX : x.length ≤ 9000000) (hi : i ≤ x.length) (hs : s ≤ 4) (hw : (cp w).length ≤ 15) :
    (seq (sif (tst (KR.bin geq (getv 7) (KR.ret (.int 0)))) (sret (val (KR.bin gadd (cut (getv 1) (KR.ret none) (par (getv 5))) (cut (getv 1) (par (KR.bin gadd (getv 5) (getv 6))) (KR.ret none))))) skip)
  (seq (sif (tst (KR.bin geq (getv 7) (KR.ret (.int 1)))) (sret (val (KR.bin gadd (KR.bin gadd (cut (getv 1) (KR.ret none) (par (getv 5))) (cut (getv 1) (par (getv 5)) (par (KR.bin gadd (getv 5) (getv 6))))) (cut (getv 1) (par (getv 5)) (KR.ret none))))) skip)
  (seq (sif (tst (KR.bin geq (getv 7) (KR.ret (.int 2)))) (sret (val (KR.bin gadd (KR.bin gadd (cut (getv 1) (KR.ret none) (par (getv 5))) (getv 4)) (cut (getv 1) (par (getv 5)) (KR.ret none))))) skip)
  (sret (val (KR.bin gadd (KR.bin gadd (cut (getv 1) (KR.ret none) (par (getv 5))) (getv 4)) (cut (getv 1) (par (KR.bin gadd (getv 5) (getv 6))) (KR.ret none))))))))
      lk [some S0, some (Tx x), some nm, some L, some (.val (.str w)), some (KR.I i), some (KR.I s), some (KR.I z)] = some (.ok (.ret (Tx (chg x (cp w) i s z))), [some S0, some (Tx x), some nm, some L, some (.val (.str w)), some (KR.I i), some (KR.I s), some (KR.I z)]) := by
  have a2 := len_take (x := x) (i := i)
  have a3 := cnt_mid (x := x) (i := i) hs
  have a4 := cnt_far (x := x) (i := i) (s := s)
  have p1 := c_pre (X := x) (k := i) (by omega)
  have p2 := c_suf (X := x) (k := i) (by omega)
  have p3 := c_suf (X := x) (k := i + s) (by omega)
  have p4 := c_mid (X := x) (k := i) (s := s) (by omega) hi
  have ei : ((i + s : Nat) : Int) = (i : Int) + s := rfl
  rw [ei] at p3 p4
  have g0 := gadd_3 (a := x.take i) (b := x.drop (i + s)) (by omega)
  have g1 := gadd_3 (a := x.take i) (b := (x.drop i).take s) (by omega)
  have g2 := gadd_3 (a := x.take i ++ (x.drop i).take s) (b := x.drop i) (by rw [List.length_append]; omega)
  have hww : (.str w : D) = .str (S' (cp w)) := by rw [S_toList]
  have g3 := gadd_3 (a := x.take i) (b := cp w) (by omega)
  have g4 := gadd_3 (a := x.take i ++ cp w) (b := x.drop i) (by rw [List.length_append]; omega)
  have g5 := gadd_3 (a := x.take i ++ cp w) (b := x.drop (i + s)) (by rw [List.length_append]; omega)
  rw [hww]
  unfold chg
  generalize cp w = w' at g3 g4 g5 ⊢
  by_cases q0 : z = 0
  · rw [if_pos q0]
    simp only [Tx]
    generalize S' (x.take i ++ x.drop (i + s)) = R at g0 ⊢
    simp [q0, asI, p1, p3, g0]
  · rw [if_neg q0]
    by_cases q1 : z = 1
    · rw [if_pos q1]
      simp only [Tx]
      generalize S' (x.take i ++ (x.drop i).take s ++ x.drop i) = R at g2 ⊢
      simp [q1, asI, p1, p2, p4, g1, g2]
    · rw [if_neg q1]
      by_cases q2 : z = 2
      · rw [if_pos q2]
        simp only [Tx]
        generalize S' (x.take i ++ w' ++ x.drop i) = R at g4 ⊢
        simp [q2, asI, p1, p2, g3, g4]
      · rw [if_neg q2]
        simp only [Tx]
        generalize S' (x.take i ++ w' ++ x.drop (i + s)) = R at g5 ⊢
        simp [q0, q1, q2, asI, p1, p3, g3, g5]
end My

set_option Elab.async false
set_option linter.all false
set_option maxRecDepth 100000
namespace My
open PySem L2 KR
abbrev WL (names : List Str) : List D := (WS ++ names).map D.str
theorem wl_len {names : List Str} : (WL names).length = 23 + names.length := by rw [List.length_map, List.length_append]; rfl
abbrev C3 : S := sset 3 (val (KR.bin gadd (frz (dlst (acons (KR.ret (.str "now")) (acons (KR.ret (.str "nothing")) (acons (KR.ret (.str "last(now)")) (acons (KR.ret (.str "less")) (acons (KR.ret (.str "if(")) (acons (KR.ret (.str ")")) (acons (KR.ret (.str "(")) (acons (KR.ret (.str ",")) (acons (KR.ret (.str " ")) (acons (KR.ret (.str "0")) (acons (KR.ret (.str "1")) (acons (KR.ret (.str "2")) (acons (KR.ret (.str "3")) (acons (KR.ret (.str "4")) (acons (KR.ret (.str "is(")) (acons (KR.ret (.str "times(3,")) (acons (KR.ret (.str "circle(2,1,")) (acons (KR.ret (.str "circle(3,2,now)")) (acons (KR.ret (.str "great(2,")) (acons (KR.ret (.str "A")) (acons (KR.ret (.str "-")) (acons (KR.ret (.str "among(now,now)")) (acons (KR.ret (.str "before")) (KR.ret [])))))))))))))))))))))))))) (cal (f1 glist) (acons (getv 2) (KR.ret [])))))
abbrev C4 (cc : Nat → Cl) : S := sset 4 (val (KR.bin gix (getv 3) (frz (ocall (cc 7) 2 (clend 0 (cval (cal (f1 glen) (acons (getv 3) (KR.ret []))) (KR.ret [])))))))
abbrev C5 (cc : Nat → Cl) : S := sset 5 (ocall (cc 7) 2 (clend 0 (cval (KR.bin gadd (cal (f1 glen) (acons (getv 1) (KR.ret []))) (KR.ret (.int 1))) (KR.ret []))))
abbrev C6 (cc : Nat → Cl) : S := sset 6 (val (KR.bin gix (frz (dlst (acons (KR.ret (.int 1)) (acons (KR.ret (.int 1)) (acons (KR.ret (.int 2)) (acons (KR.ret (.int 4)) (KR.ret []))))))) (frz (ocall (cc 7) 2 (clend 0 (cval (KR.ret (.int 4)) (KR.ret [])))))))
abbrev C7 (cc : Nat → Cl) : S := sset 7 (ocall (cc 7) 2 (clend 0 (cval (KR.ret (.int 4)) (KR.ret []))))
abbrev CE : S := (seq (sif (tst (KR.bin geq (getv 7) (KR.ret (.int 0)))) (sret (val (KR.bin gadd (cut (getv 1) (KR.ret none) (par (getv 5))) (cut (getv 1) (par (KR.bin gadd (getv 5) (getv 6))) (KR.ret none))))) skip)
  (seq (sif (tst (KR.bin geq (getv 7) (KR.ret (.int 1)))) (sret (val (KR.bin gadd (KR.bin gadd (cut (getv 1) (KR.ret none) (par (getv 5))) (cut (getv 1) (par (getv 5)) (par (KR.bin gadd (getv 5) (getv 6))))) (cut (getv 1) (par (getv 5)) (KR.ret none))))) skip)
  (seq (sif (tst (KR.bin geq (getv 7) (KR.ret (.int 2)))) (sret (val (KR.bin gadd (KR.bin gadd (cut (getv 1) (KR.ret none) (par (getv 5))) (getv 4)) (cut (getv 1) (par (getv 5)) (KR.ret none))))) skip)
  (sret (val (KR.bin gadd (KR.bin gadd (cut (getv 1) (KR.ret none) (par (getv 5))) (getv 4)) (cut (getv 1) (par (KR.bin gadd (getv 5) (getv 6))) (KR.ret none))))))))
theorem b15_eq (cc : Nat → Cl) : b15 cc = seq C3 (seq (C4 cc) (seq (C5 cc) (seq (C6 cc) (seq (C7 cc) CE)))) := rfl
theorem c3_run {S0 x : RV} {names : List Str} (h : names.length ≤ 1000) : C3 [0] [some S0, some x, some (NS names), none, none, none, none, none] = some (.ok .nx, [some S0, some x, some (NS names), some (.val (.lst (WL names))), none, none, none, none]) := by
  have gl : glist (.tup (names.map D.str)) = some (.lst (names.map D.str)) := rfl
  have g := gadd_lst (a := WS.map D.str) (b := names.map D.str) (by rw [List.length_map, List.length_map]; show 23 + names.length ≤ _; omega)
  have e : WL names = WS.map D.str ++ names.map D.str := List.map_append
  rw [e]
  simp only [List.map_cons, List.map_nil] at g
  simp [gl, g]
theorem changed_ok {n : Nat} {names : List Str} (hn : Nm names) {t : List Int} (ht : Tp t) (hl : t.length ≤ 2520) {k : Int} (h0 : 0 ≤ k) (h1 : k < 900000) {x : List Nat} (hX : x.length ≤ 9000000) :
    ∃ (k' : Int) (y : List Nat), k ≤ k' ∧ k' ≤ k + 4 ∧ y.length ≤ x.length + 15 ∧ y.count 40 ≤ x.count 40 + 4 ∧ call (n + 3) 15 [St t k, Tx x, NS names] = some (.ok (Tx y), [St t k', Tx x, NS names]) := by
  have hq := hn.q
  have hwl := wl_len (names := names)
  obtain ⟨j, j0, j1, e1⟩ := take_eq (n := n) (k := k) (m := ((WL names).length : Int)) ht hl h0 (by omega) (by omega)
  obtain ⟨i, i0, i1, e2⟩ := take_eq (n := n) (k := k + 1) (m := (x.length : Int) + 1) ht hl (by omega) (by omega) (by omega)
  obtain ⟨s, s0', s1', e3⟩ := take_eq (n := n) (k := k + 1 + 1) (m := 4) ht hl (by omega) (by omega) (by decide)
  obtain ⟨z, z0, z1, e4⟩ := take_eq (n := n) (k := k + 1 + 1 + 1) (m := 4) ht hl (by omega) (by omega) (by decide)
  obtain ⟨w, hw, ew⟩ : ∃ w ∈ WS ++ names, atI (WL names) j = some (.str w) := by
    have hj : j.toNat < (WS ++ names).length := by rw [List.length_map] at j1; omega
    refine ⟨(WS ++ names)[j.toNat], List.getElem_mem _, ?_⟩
    rw [atI_int j0 j1]
    simp only [List.getElem_map]
  obtain ⟨w1, w2⟩ := word_ok hn w hw
  obtain ⟨iN, rfl⟩ : ∃ iN : Nat, i = iN := ⟨i.toNat, by omega⟩
  obtain ⟨sN, hs4, es⟩ : ∃ sN : Nat, sN ≤ 4 ∧ atI [D.int 1, .int 1, .int 2, .int 4] s = some (.int (sN : Nat)) := by
    rcases (show s = 0 ∨ s = 1 ∨ s = 2 ∨ s = 3 by omega) with rfl | rfl | rfl | rfl
    · exact ⟨1, by omega, rfl⟩
    · exact ⟨1, by omega, rfl⟩
    · exact ⟨2, by omega, rfl⟩
    · exact ⟨4, by omega, rfl⟩
  have hc := chg_ok (x := x) (w := cp w) (i := iN) (s := sN) (z := z) hs4 w1 w2
  refine ⟨k + 1 + 1 + 1 + 1, chg x (cp w) iN sN z, by omega, by omega, hc.1, hc.2, ?_⟩
  have g := glen_S (l := x) (by omega)
  have gW : glen (.lst (WL names)) = some (.int ((WL names).length : Nat)) := rfl
  have r3 := c3_run (S0 := St t k) (x := Tx x) (names := names) (by omega)
  have r4 : C4 (call (n + 2)) [0] [some (St t k), some (Tx x), some (NS names), some (.val (.lst (WL names))), none, none, none, none] = some (.ok .nx, [some (St t (k + 1)), some (Tx x), some (NS names), some (.val (.lst (WL names))), some (.val (.str w)), none, none, none]) := by
    generalize WL names = L at gW e1 ew ⊢
    have e1' : call (n + 2) 7 [St t k, .val (.int (L.length : Int))] = _ := e1
    simp [takeA, putA, gW, e1', ew]
  have r5 : C5 (call (n + 2)) [0] [some (St t (k + 1)), some (Tx x), some (NS names), some (.val (.lst (WL names))), some (.val (.str w)), none, none, none] = some (.ok .nx, [some (St t (k + 1 + 1)), some (Tx x), some (NS names), some (.val (.lst (WL names))), some (.val (.str w)), some (KR.I iN), none, none]) := by
    generalize WL names = L
    simp [takeA, putA, g, e2]
  have r6 : C6 (call (n + 2)) [0] [some (St t (k + 1 + 1)), some (Tx x), some (NS names), some (.val (.lst (WL names))), some (.val (.str w)), some (KR.I iN), none, none] = some (.ok .nx, [some (St t (k + 1 + 1 + 1)), some (Tx x), some (NS names), some (.val (.lst (WL names))), some (.val (.str w)), some (KR.I iN), some (KR.I sN), none]) := by
    generalize WL names = L
    simp [takeA, putA, e3, es]
  have r7 : C7 (call (n + 2)) [0] [some (St t (k + 1 + 1 + 1)), some (Tx x), some (NS names), some (.val (.lst (WL names))), some (.val (.str w)), some (KR.I iN), some (KR.I sN), none] = some (.ok .nx, [some (St t (k + 1 + 1 + 1 + 1)), some (Tx x), some (NS names), some (.val (.lst (WL names))), some (.val (.str w)), some (KR.I iN), some (KR.I sN), some (KR.I z)]) := by
    generalize WL names = L
    simp [takeA, putA, e4]
  have rE := chg_end (S0 := St t (k + 1 + 1 + 1 + 1)) (nm := NS names) (L := .val (.lst (WL names))) (lk := [0]) (x := x) (w := w) (i := iN) (s := sN) (z := z) hX (by omega) hs4 w1
  have eb : b15 (call (n + 2)) [0] [some (St t k), some (Tx x), some (NS names), none, none, none, none, none] = some (.ok (.ret (Tx (chg x (cp w) iN sN z))), [some (St t (k + 1 + 1 + 1 + 1)), some (Tx x), some (NS names), some (.val (.lst (WL names))), some (.val (.str w)), some (KR.I iN), some (KR.I sN), some (KR.I z)]) := by
    rw [b15_eq, seq_nx' r3, seq_nx' r4, seq_nx' r5, seq_nx' r6, seq_nx' r7]
    exact rE
  rw [show n + 3 = (n + 2) + 1 from rfl, call]
  simp only [bodies]
  generalize b15 (call (n + 2)) = B at eb ⊢
  generalize WL names = L at eb
  unfold runD
  simp [lockOf, backs, eb]
end My

set_option Elab.async false
set_option linter.all false
set_option maxRecDepth 100000
namespace My
open PySem L2 KR
abbrev BIn (cc : Nat → Cl) : S := sset 5 (ocall (cc 15) 3 (clend 1 (cval (getv 5) (cval (getv 2) (KR.ret [])))))
theorem in_for {n : Nat} {names : List Str} (hn : Nm names) {t : List Int} (ht : Tp t) (hl : t.length ≤ 2520) {s x : RV} {v4 : Option RV} : ∀ (xs : List D) (k : Int) (y : List Nat) (v6 : Option RV), 0 ≤ k → k + 4 * (xs.length : Int) < 900000 → y.length + 15 * xs.length ≤ 9000000 →
    ∃ (k' : Int) (y' : List Nat) (v6' : Option RV), k ≤ k' ∧ k' ≤ k + 4 * (xs.length : Int) ∧ y'.length ≤ y.length + 15 * xs.length ∧ y'.count 40 ≤ y.count 40 + 4 * xs.length ∧
      forL (gnm 6) (BIn (call (n + 3))) xs [] [some s, some (St t k), some (NS names), some x, v4, some (Tx y), v6] = some (.ok .nx, [some s, some (St t k'), some (NS names), some x, v4, some (Tx y'), v6'])
  | [], k, y, v6, h0, _, _ => ⟨k, y, v6, Int.le_refl _, by simp, by simp, by simp, rfl⟩
  | a :: xs, k, y, v6, h0, h1, h2 => by
    rw [List.length_cons] at h1 h2
    obtain ⟨k1, y1, a1, a2, a3, a4, e⟩ := changed_ok (n := n) hn ht hl h0 (by omega) (x := y) (by omega)
    obtain ⟨k', y', v6', b1, b2, b3, b4, e'⟩ := in_for (n := n) hn ht hl (s := s) (x := x) (v4 := v4) xs k1 y1 (some (.val a)) (by omega) (by omega) (by omega)
    refine ⟨k', y', v6', by omega, by rw [List.length_cons]; omega, by rw [List.length_cons]; omega, by rw [List.length_cons]; omega, ?_⟩
    have st : BIn (call (n + 3)) [] [some s, some (St t k), some (NS names), some x, v4, some (Tx y), some (.val a)] = some (.ok .nx, [some s, some (St t k1), some (NS names), some x, v4, some (Tx y1), some (.val a)]) := by
      simp [takeA, putA, e]
    rw [forL_nx (ρ1 := [some s, some (St t k), some (NS names), some x, v4, some (Tx y), some (.val a)]) (by simp) st]
    exact e'
abbrev BOut (cc : Nat → Cl) : S := seq (sset 5 (val (getv 3)))
  (seq (sfor (gnm 6) (icl rng1 (acons (KR.bin gadd (KR.ret (.int 1)) (frz (ocall (cc 7) 2 (clend 1 (cval (KR.ret (.int 3)) (KR.ret [])))))) (KR.ret []))) (BIn cc))
  (sif (tnot (tstV (frz (ocall (cc 6) 2 (cval (frz (ocall (cc 3) 2 (cval (getv 5) (cval (getv 2) (KR.ret []))))) (cval (frz (ocall (cc 14) 2 (cval (getv 5) (cval (getv 2) (KR.ret []))))) (KR.ret []))))))) (sret (val (KR.ret (.bl false)))) skip))
theorem rng_le {c : Int} (h0 : 0 ≤ c) (h1 : c ≤ 1000) : ∃ R : List Int, rng1 [.int c] = some (ints' R) ∧ (R.length : Int) = c := ⟨_, by rw [rng1, if_pos ⟨by omega, by omega⟩, rng_ints], by simp; omega⟩
theorem out_turn {names : List Str} (hn : Nm names) {t : List Int} (ht : Tp t) (hl : t.length ≤ 2520) {s : RV} {x : List Nat} (hx : x.length ≤ 8000000) (hc : x.count 40 ≤ 10) {v4 v5 v6 : Option RV} {k : Int} (h0 : 0 ≤ k) (h1 : k + 13 < 900000) :
    ∃ (k' : Int) (v5' v6' : Option RV), k ≤ k' ∧ k' ≤ k + 13 ∧ BOut (call 59) [] [some s, some (St t k), some (NS names), some (Tx x), v4, v5, v6] = some (.ok .nx, [some s, some (St t k'), some (NS names), some (Tx x), v4, v5', v6']) := by
  obtain ⟨c, c0, c1, e1⟩ := take_eq (n := 57) (k := k) (m := 3) ht hl h0 (by omega) (by decide)
  obtain ⟨R, hR, lR⟩ := rng_le (c := 1 + c) (by omega) (by omega)
  have lR' : (ints' R).length = R.length := List.length_map ..
  obtain ⟨k', y, v6', a1, a2, a3, a4, e2⟩ := in_for (n := 56) hn ht hl (s := s) (x := Tx x) (v4 := v4) (ints' R) (k + 1) x v6 (by omega) (by omega) (by omega)
  have hlR : R.length ≤ 3 := by omega
  rw [lR'] at a2 a3 a4
  obtain ⟨Rd, q1, q2, q3⟩ := agree hn.w (t := y) (by omega) (by omega)
  refine ⟨k', some (Tx y), v6', by omega, by omega, ?_⟩
  have f1 : sset 5 (val (getv 3)) [] [some s, some (St t k), some (NS names), some (Tx x), v4, v5, v6] = some (.ok .nx, [some s, some (St t k), some (NS names), some (Tx x), v4, some (Tx x), v6]) := by simp
  have hi : icl rng1 (acons (KR.bin gadd (KR.ret (.int 1)) (frz (ocall (call 59 7) 2 (clend 1 (cval (KR.ret (.int 3)) (KR.ret [])))))) (KR.ret [])) [some s, some (St t k), some (NS names), some (Tx x), v4, some (Tx x), v6] = some (.ok (ints' R), [some s, some (St t (k + 1)), some (NS names), some (Tx x), v4, some (Tx x), v6]) :=
    icl_ok (as := [.int (1 + c)]) (by
      have e1' : call 59 7 [St t k, .val (.int 3)] = _ := e1
      simp [takeA, putA, e1']) hR
  have f2 : sfor (gnm 6) (icl rng1 (acons (KR.bin gadd (KR.ret (.int 1)) (frz (ocall (call 59 7) 2 (clend 1 (cval (KR.ret (.int 3)) (KR.ret [])))))) (KR.ret []))) (BIn (call 59)) [] [some s, some (St t k), some (NS names), some (Tx x), v4, some (Tx x), v6] = some (.ok .nx, [some s, some (St t k'), some (NS names), some (Tx x), v4, some (Tx y), v6']) := by
    rw [sfor_ap, sbnd_ap, hi]
    exact e2
  unfold BOut
  rw [seq_nx' f1, seq_nx' f2]
  simp [takeA, putA, q1, q2, q3]
theorem out_for {names : List Str} (hn : Nm names) {t : List Int} (ht : Tp t) (hl : t.length ≤ 2520) {s : RV} {x : List Nat} (hx : x.length ≤ 8000000) (hc : x.count 40 ≤ 10) : ∀ (xs : List D) (k : Int) (v4 v5 v6 : Option RV), 0 ≤ k → k + 13 * (xs.length : Int) < 900000 →
    ∃ (k' : Int) (v4' v5' v6' : Option RV), forL (gnm 4) (BOut (call 59)) xs [] [some s, some (St t k), some (NS names), some (Tx x), v4, v5, v6] = some (.ok .nx, [some s, some (St t k'), some (NS names), some (Tx x), v4', v5', v6'])
  | [], k, v4, v5, v6, _, _ => ⟨k, v4, v5, v6, rfl⟩
  | a :: xs, k, v4, v5, v6, h0, h1 => by
    rw [List.length_cons] at h1
    obtain ⟨k1, w5, w6, a1, a2, e⟩ := out_turn hn ht hl (s := s) hx hc (v4 := some (.val a)) (v5 := v5) (v6 := v6) h0 (by omega)
    obtain ⟨k', v4', v5', v6', e'⟩ := out_for hn ht hl (s := s) hx hc xs k1 (some (.val a)) w5 w6 (by omega) (by omega)
    refine ⟨k', v4', v5', v6', ?_⟩
    rw [forL_nx (ρ1 := [some s, some (St t k), some (NS names), some (Tx x), some (.val a), v5, v6]) (by simp) e]
    exact e'
theorem b16_eq (cc : Nat → Cl) : b16 cc = (seq (sset 1 (dlst (acons (frz (ocall (cc 4) 1 (cval (getv 0) (KR.ret [])))) (acons (KR.ret (.int 0)) (KR.ret [])))))
  (seq (sset 2 (ocall (cc 8) 1 (clend 1 (KR.ret []))))
  (seq (sset 3 (ocall (cc 11) 1 (cval (frz (ocall (cc 10) 3 (clend 1 (cval (getv 2) (cval (KR.bin gadd (KR.ret (.int 1)) (frz (ocall (cc 7) 2 (clend 1 (cval (KR.ret (.int 10)) (KR.ret [])))))) (KR.ret [])))))) (KR.ret []))))
  (seq (sfor (gnm 4) (icl rng1 (acons (KR.ret (.int 5)) (KR.ret []))) (BOut cc))
  (sret (ocall (cc 6) 2 (cval (frz (ocall (cc 3) 2 (cval (getv 3) (cval (getv 2) (KR.ret []))))) (cval (frz (ocall (cc 14) 2 (cval (getv 3) (cval (getv 2) (KR.ret []))))) (KR.ret [])))))))))  := rfl
theorem law_end {cc : Nat → Cl} {B : S} {Zr : M (List D)} {sc nm q xt Rd : D} {t : List Int} {k1 k2 k3 k4 m : Int} {U : List D} {v4 v5 v6 : Option RV}
    (e1 : cc 4 [.val sc] = some (.ok (.val (TL t)), [.val sc])) (e2 : cc 8 [St t 0] = some (.ok (.val nm), [St t k1])) (e3 : cc 7 [St t k1, KR.I 10] = some (.ok (KR.I m), [St t k2, KR.I 10]))
    (e4 : cc 10 [St t k2, .val nm, KR.I (1 + m)] = some (.ok (.val q), [St t k3, .val nm, KR.I (1 + m)])) (e5 : cc 11 [.val q] = some (.ok (.val xt), [.val q]))
    (hi : Zr [some (.val sc), some (St t k3), some (.val nm), some (.val xt), none, none, none] = some (.ok U, [some (.val sc), some (St t k3), some (.val nm), some (.val xt), none, none, none]))
    (ef : forL (gnm 4) B U [] [some (.val sc), some (St t k3), some (.val nm), some (.val xt), none, none, none] = some (.ok .nx, [some (.val sc), some (St t k4), some (.val nm), some (.val xt), v4, v5, v6]))
    (q1 : cc 3 [.val xt, .val nm] = some (.ok (.val Rd), [.val xt, .val nm])) (q2 : cc 14 [.val xt, .val nm] = some (.ok (.val Rd), [.val xt, .val nm])) (q3 : cc 6 [.val Rd, .val Rd] = some (.ok (.val (.bl true)), [.val Rd, .val Rd])) :
    runD 1 7 (seq (sset 1 (dlst (acons (frz (ocall (cc 4) 1 (cval (getv 0) (KR.ret [])))) (acons (KR.ret (.int 0)) (KR.ret [])))))
  (seq (sset 2 (ocall (cc 8) 1 (clend 1 (KR.ret []))))
  (seq (sset 3 (ocall (cc 11) 1 (cval (frz (ocall (cc 10) 3 (clend 1 (cval (getv 2) (cval (KR.bin gadd (KR.ret (.int 1)) (frz (ocall (cc 7) 2 (clend 1 (cval (KR.ret (.int 10)) (KR.ret [])))))) (KR.ret [])))))) (KR.ret []))))
  (seq (sfor (gnm 4) Zr B)
  (sret (ocall (cc 6) 2 (cval (frz (ocall (cc 3) 2 (cval (getv 3) (cval (getv 2) (KR.ret []))))) (cval (frz (ocall (cc 14) 2 (cval (getv 3) (cval (getv 2) (KR.ret []))))) (KR.ret []))))))))) [.val sc] = some (.ok (.val (.bl true)), [.val sc]) := by
  refine runV (ds := [sc]) rfl (by decide) (v := [some (.val sc), some (St t k4), some (.val nm), some (.val xt), v4, v5, v6]) ?_
  simp [takeA, putA, e1, e2, e3, e4, e5, hi, ef, q1, q2, q3]
theorem law_true (ns : List Int) (h : ns.length ≤ 63) : ∃ rs, call DEEP 16 [.val (.lsr (ns.map .int))] = some (.ok (.val (.bl true)), rs) := by
  obtain ⟨t, ht, htl, et⟩ := tape_eq (n := 58) h
  obtain ⟨names, hn, en⟩ := names_eq (n := 56) (k := 0) ht htl (by decide) (by decide)
  obtain ⟨r, r0, r1, er⟩ := take_eq (n := 57) (k := 2) (m := 10) ht htl (by decide) (by decide) (by decide)
  obtain ⟨m, hm⟩ : ∃ m : Nat, 1 + r = (m : Int) := ⟨(1 + r).toNat, by omega⟩
  obtain ⟨d, k', hd, k0, k1, ed⟩ := tree_eq hn ht htl m (by omega) (by omega) (56 - m) 3 (by decide) (by omega)
  rw [show m + (56 - m) + 3 = 59 by omega] at ed
  obtain ⟨x, b, p, hx, hp⟩ := hd
  have lim : Lim names m := ⟨hn.l, by omega⟩
  have hlen : x.length ≤ 8000000 := by
    have h1 := tg_len hn.l m d x b p hx
    have h2 := lim_pow (m := m) (by omega)
    have h3 : LL m = 20 * 3 ^ m - 10 := rfl
    omega
  have hcnt : x.count 40 ≤ 10 := by
    have := tg_count hn.w m d x b p hx
    omega
  have w2 := text_ok m (58 - m) d x b p lim hx
  rw [show m + (58 - m) + 1 = 59 by omega] at w2
  obtain ⟨Rd, q1, q2, q3⟩ := agree hn.w (t := x) (by omega) (by omega)
  obtain ⟨R, hR, lR⟩ := rng_le (c := 5) (by decide) (by decide)
  have lR' : (ints' R).length = R.length := List.length_map ..
  obtain ⟨k4, v4, v5, v6, ef⟩ := out_for hn ht htl (s := .val (.lsr (ints' ns))) hlen hcnt (ints' R) k' none none none (by omega) (by omega)
  have hi : icl rng1 (acons (KR.ret (.int 5)) (KR.ret [])) [some (.val (.lsr (ints' ns))), some (St t k'), some (NS names), some (Tx x), none, none, none] = some (.ok (ints' R), [some (.val (.lsr (ints' ns))), some (St t k'), some (NS names), some (Tx x), none, none, none]) := icl_ok (as := [.int 5]) (by simp) hR
  have et' : call 59 4 [.val (.lsr (ints' ns))] = some (.ok (.val (TL t)), [.val (.lsr (ints' ns))]) := et
  have en' : call 59 8 [St t 0] = some (.ok (NS names), [St t 2]) := en
  have er' : call 59 7 [St t 2, KR.I 10] = some (.ok (KR.I r), [St t 3, KR.I 10]) := er
  have ed' : call 59 10 [St t 3, NS names, KR.I (1 + r)] = some (.ok (.val d), [St t k', NS names, KR.I (1 + r)]) := by rw [hm]; exact ed
  refine ⟨[.val (.lsr (ints' ns))], ?_⟩
  rw [show DEEP = 59 + 1 from rfl, call]
  simp only [bodies]
  rw [b16_eq]
  exact law_end et' en' er' ed' w2 hi ef q1 q2 q3
end My

open PySem PySem.W PyProof.Rows in
set_option maxRecDepth 100000 in
set_option maxHeartbeats 0 in
theorem PySem.Challenge.cw_keeproom_k04_texts_that_are_no_question_holds : PySem.Challenge.rw_keeproom_k04_texts_that_are_no_question.Holds := by
  w_on; o_law; k_head; (case hw => w_witness2)
  k_fill
  refine My.walk My.law_true (l := PySem.Challenge.rw_keeproom_k04_texts_that_are_no_question) rfl rfl (fun w h Y => PySem.W.kIn_of Y) ?F
  case F =>
    intro w mg fa h KX G hmg
    refine' My.all_mk KX G hmg ?a0 ?l0 ?c0 ?k0 ?a1 ?l1 ?c1 ?k1 ?a2 ?l2 ?c2 ?k2 ?a3 ?l3 ?c3 ?k3 ?a4 ?l4 ?c4 ?k4 ?a5 ?l5 ?c5 ?k5 ?a6 ?l6 ?c6 ?k6 ?a7 ?l7 ?c7 ?k7 ?a8 ?l8 ?c8 ?k8 ?a9 ?l9 ?c9 ?k9 ?a10 ?l10 ?c10 ?k10 ?a11 ?l11 ?c11 ?k11 ?a12 ?l12 ?c12 ?k12 ?a13 ?l13 ?c13 ?k13 ?a14 ?l14 ?c14 ?k14 ?a15 ?l15 ?c15 ?k15 ?a16 ?l16 ?c16 ?k16 ?b_bool ?b_int ?b_isinstance ?b_len ?b_list ?b_range ?b_str ?b_tuple ?g_LETTERS ?g_DIGITS ?l_DIGITS ?y_DIGITS ?z_DIGITS ?x_DIGITS ?v_DIGITS ?g_SHAPES ?l_SHAPES ?y_SHAPES ?z_SHAPES ?x_SHAPES ?u_SHAPES0 ?h_SHAPES0 ?r_SHAPES0 ?u_SHAPES1 ?h_SHAPES1 ?r_SHAPES1 ?u_SHAPES2 ?h_SHAPES2 ?r_SHAPES2 ?u_SHAPES3 ?h_SHAPES3 ?r_SHAPES3 ?u_SHAPES4 ?h_SHAPES4 ?r_SHAPES4 ?u_SHAPES5 ?h_SHAPES5 ?r_SHAPES5 ?u_SHAPES6 ?h_SHAPES6 ?r_SHAPES6 ?u_SHAPES7 ?h_SHAPES7 ?r_SHAPES7 ?u_SHAPES8 ?h_SHAPES8 ?r_SHAPES8 ?u_SHAPES9 ?h_SHAPES9 ?r_SHAPES9 ?u_SHAPES10 ?h_SHAPES10 ?r_SHAPES10 ?u_SHAPES11 ?h_SHAPES11 ?r_SHAPES11 ?u_SHAPES12 ?h_SHAPES12 ?r_SHAPES12 ?v_SHAPES
    (case a0 => k_is)
    (case l0 => k_is)
    (case c0 => k_is)
    (case k0 => k_is)
    (case a1 => k_is)
    (case l1 => k_is)
    (case c1 => k_is)
    (case k1 => k_is)
    (case a2 => k_is)
    (case l2 => k_is)
    (case c2 => k_is)
    (case k2 => k_is)
    (case a3 => k_is)
    (case l3 => k_is)
    (case c3 => k_is)
    (case k3 => k_is)
    (case a4 => k_is)
    (case l4 => k_is)
    (case c4 => k_is)
    (case k4 => k_is)
    (case a5 => k_is)
    (case l5 => k_is)
    (case c5 => k_is)
    (case k5 => k_is)
    (case a6 => k_is)
    (case l6 => k_is)
    (case c6 => k_is)
    (case k6 => k_is)
    (case a7 => k_is)
    (case l7 => k_is)
    (case c7 => k_is)
    (case k7 => k_is)
    (case a8 => k_is)
    (case l8 => k_is)
    (case c8 => k_is)
    (case k8 => k_is)
    (case a9 => k_is)
    (case l9 => k_is)
    (case c9 => k_is)
    (case k9 => k_is)
    (case a10 => k_is)
    (case l10 => k_is)
    (case c10 => k_is)
    (case k10 => k_is)
    (case a11 => k_is)
    (case l11 => k_is)
    (case c11 => k_is)
    (case k11 => k_is)
    (case a12 => k_is)
    (case l12 => k_is)
    (case c12 => k_is)
    (case k12 => k_is)
    (case a13 => k_is)
    (case l13 => k_is)
    (case c13 => k_is)
    (case k13 => k_is)
    (case a14 => k_is)
    (case l14 => k_is)
    (case c14 => k_is)
    (case k14 => k_is)
    (case a15 => k_is)
    (case l15 => k_is)
    (case c15 => k_is)
    (case k15 => k_is)
    (case a16 => k_is)
    (case l16 => k_is)
    (case c16 => k_is)
    (case k16 => k_is)
    (case b_bool => k_is)
    (case b_int => k_is)
    (case b_isinstance => k_is)
    (case b_len => k_is)
    (case b_list => k_is)
    (case b_range => k_is)
    (case b_str => k_is)
    (case b_tuple => k_is)
    (case g_LETTERS => k_is)
    (case g_DIGITS => k_is)
    (case l_DIGITS => k_is)
    (case y_DIGITS => k_keys)
    (case z_DIGITS => rfl)
    (case x_DIGITS => rfl)
    (case v_DIGITS => rfl)
    (case g_SHAPES => k_is)
    (case l_SHAPES => k_is)
    (case y_SHAPES => k_keys)
    (case z_SHAPES => rfl)
    (case x_SHAPES => rfl)
    (case v_SHAPES => rfl)
    (case u_SHAPES0 => k_is)
    (case h_SHAPES0 => decide)
    (case r_SHAPES0 => exact .cons ⟨_, rfl⟩ (.nil))
    (case u_SHAPES1 => k_is)
    (case h_SHAPES1 => decide)
    (case r_SHAPES1 => exact .cons ⟨_, rfl⟩ (.cons ⟨_, rfl⟩ (.nil)))
    (case u_SHAPES2 => k_is)
    (case h_SHAPES2 => decide)
    (case r_SHAPES2 => exact .cons ⟨_, rfl⟩ (.cons ⟨_, rfl⟩ (.nil)))
    (case u_SHAPES3 => k_is)
    (case h_SHAPES3 => decide)
    (case r_SHAPES3 => exact .cons ⟨_, rfl⟩ (.cons ⟨_, rfl⟩ (.cons ⟨_, rfl⟩ (.nil))))
    (case u_SHAPES4 => k_is)
    (case h_SHAPES4 => decide)
    (case r_SHAPES4 => exact .cons ⟨_, rfl⟩ (.nil))
    (case u_SHAPES5 => k_is)
    (case h_SHAPES5 => decide)
    (case r_SHAPES5 => exact .cons ⟨_, rfl⟩ (.nil))
    (case u_SHAPES6 => k_is)
    (case h_SHAPES6 => decide)
    (case r_SHAPES6 => exact .cons ⟨_, rfl⟩ (.nil))
    (case u_SHAPES7 => k_is)
    (case h_SHAPES7 => decide)
    (case r_SHAPES7 => exact .cons ⟨_, rfl⟩ (.cons ⟨_, rfl⟩ (.nil)))
    (case u_SHAPES8 => k_is)
    (case h_SHAPES8 => decide)
    (case r_SHAPES8 => exact .cons ⟨_, rfl⟩ (.cons ⟨_, rfl⟩ (.nil)))
    (case u_SHAPES9 => k_is)
    (case h_SHAPES9 => decide)
    (case r_SHAPES9 => exact .cons ⟨_, rfl⟩ (.cons ⟨_, rfl⟩ (.nil)))
    (case u_SHAPES10 => k_is)
    (case h_SHAPES10 => decide)
    (case r_SHAPES10 => exact .cons ⟨_, rfl⟩ (.cons ⟨_, rfl⟩ (.cons ⟨_, rfl⟩ (.nil))))
    (case u_SHAPES11 => k_is)
    (case h_SHAPES11 => decide)
    (case r_SHAPES11 => exact .cons ⟨_, rfl⟩ (.cons ⟨_, rfl⟩ (.nil)))
    (case u_SHAPES12 => k_is)
    (case h_SHAPES12 => decide)
    (case r_SHAPES12 => exact .cons ⟨_, rfl⟩ (.cons ⟨_, rfl⟩ (.nil)))
#print axioms PySem.Challenge.cw_keeproom_k04_texts_that_are_no_question_holds
#print axioms PySem.Challenge.cw_keeproom_k04_texts_that_are_no_question_holds

