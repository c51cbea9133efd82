import PyProof.Rows.All
import Wide.All
import OpenK.AllK
import Wide.FinOn
import HandS.ForMost
import HandS.ForExc
import HandS.Wide
import HandS.CallSlots
import HandS.WideBits
import HandS.TupAny
import HandS.ExcOwn
import HandS.Deep
import HandS.Dict
import HandS.Text
import HandS.Zip
import HandS.TupMul
import HandS.IsInst
import HandS.Conv
import HandS.Iter
import HandS.Walk
import HandS.Comp
import KE.GoesNew
import HandS.More
import HandS.RaiseMore
import HandS.Strs
import PySem.Challenge.RW_keeproom_k08_whole_order_alone
set_option Elab.async false
set_option linter.all false
set_option maxRecDepth 100000
set_option maxHeartbeats 2000000
/-! Data as trees, and how they lie in the heap. -/
namespace KR
open PySem L2

/-- data by value -/
inductive D where
  | non
  | bl (b : Bool)
  | int (i : Int)
  | str (x : Str)
  | tup (xs : List D)
  | lst (xs : List D)
  /-- a list that is read alone: the script -/
  | lsr (xs : List D)
  | dct (ks vs : List D)
  | ins (c : Nat) (ns : List Str) (fs : List D)

/-- what a name holds: data, or an object of its own that may still change -/
inductive RV where
  | val (d : D)
  | olst (xs : List D)
  | odct (ks vs : List D)
  | oins (c : Nat) (ns : List Str) (fs : List RV)
  /-- a tuple of which it is known that it has no dict: it has methods -/
  | otup (xs : List D)

mutual
def RV.fr : RV → D
  | .val d => d
  | .olst xs => .lst xs
  | .odct ks vs => .dct ks vs
  | .oins c ns fs => .ins c ns (RV.frs fs)
  | .otup xs => .tup xs
def RV.frs : List RV → List D
  | [] => []
  | r :: rs => RV.fr r :: RV.frs rs
end

/-- keys of plain dicts -/
def keyD : Key → D
  | .inl i => .int i
  | .inr x => .str x

/-- what may be read, and stays: a frozen address, or an object of the written part -/
def FT (K : PySem.W.Frag) (F : Addr → Prop) (H : Hp) (a : Addr) (vs : List V) : Prop :=
  (F a ∧ Rd H a (.tup vs)) ∨ ∃ (o : Obj) (its : Array Value) (n : Nat), K.lookup a = some o ∧ o.cls = .type "tuple" ∧ o.data = .seq its n ∧ its.size ≤ sizeLine ∧ Vals vs its.toList
def FL (K : PySem.W.Frag) (F : Addr → Prop) (H : Hp) (a : Addr) (vs : List V) : Prop :=
  (F a ∧ Rd H a (.lst vs)) ∨ ∃ (o : Obj) (its : Array Value) (n : Nat), K.lookup a = some o ∧ o.cls = .type "list" ∧ o.dict = none ∧ o.data = .seq its n ∧ its.size ≤ sizeLine ∧ Vals vs its.toList

section
variable (K : PySem.W.Frag) (cl : Nat → Addr) (F : Addr → Prop) (H : Hp)
mutual
/-- d lies at v, and stays -/
def R : D → V → Prop
  | .non, v => v = .non
  | .bl b, v => v = .bl b
  | .int i, v => v = .int i
  | .str x, v => v = .str x
  | .tup ds, v => ∃ a vs, v = .ref a ∧ FT K F H a vs ∧ RL ds vs
  | .lst ds, v => ∃ a vs, v = .ref a ∧ F a ∧ H a = some (.lst vs) ∧ RL ds vs
  | .lsr ds, v => ∃ a vs, v = .ref a ∧ FL K F H a vs ∧ RL ds vs
  | .dct ks ds, v => ∃ (a : Addr) (kvs : List (Key × V)), v = .ref a ∧ F a ∧ H a = some (.dK kvs) ∧ ks = kvs.map (fun p => keyD p.1) ∧ RL ds (kvs.map (·.2))
  | .ins c ns ds, v => ∃ (a dx : Addr) (vs : List V), v = .ref a ∧ F a ∧ H a = some (.ins (cl c) dx (ns.zip vs)) ∧ ns.length = vs.length ∧ RL ds vs
def RL : List D → List V → Prop
  | [], vs => vs = []
  | d :: ds, vs => ∃ v us, vs = v :: us ∧ R d v ∧ RL ds us
end

/-- where a stands alone -/
def one (a : Addr) : Addr → Nat := fun b => if b = a then 1 else 0

mutual
/-- r lies at v; n: the addresses that are r's own -/
def RO : RV → V → (Addr → Nat) → Prop
  | .val d, v, n => R K cl F H d v ∧ ∀ a, n a = 0
  | .olst ds, v, n => ∃ a vs, v = .ref a ∧ H a = some (.lst vs) ∧ RL K cl F H ds vs ∧ ∀ b, n b = one a b
  | .odct ks ds, v, n => ∃ (a : Addr) (kvs : List (Key × V)), v = .ref a ∧ H a = some (.dK kvs) ∧ ks = kvs.map (fun p => keyD p.1) ∧ RL K cl F H ds (kvs.map (·.2)) ∧ ∀ b, n b = one a b
  | .oins c ns rs, v, n => ∃ (a dx : Addr) (vs : List V) (m : Addr → Nat), v = .ref a ∧ H a = some (.ins (cl c) dx (ns.zip vs)) ∧ ns.length = vs.length ∧ ROL rs vs m ∧ ∀ b, n b = one a b + m b
  | .otup ds, v, n => (∃ (a : Addr) (vs : List V) (o : Obj), v = .ref a ∧ F a ∧ o.dict = none ∧ H a = some (.frz o (.tup vs)) ∧ RL K cl F H ds vs) ∧ ∀ a, n a = 0
def ROL : List RV → List V → (Addr → Nat) → Prop
  | [], vs, n => vs = [] ∧ ∀ a, n a = 0
  | r :: rs, vs, n => ∃ v us n1 n2, vs = v :: us ∧ RO r v n1 ∧ ROL rs us n2 ∧ ∀ a, n a = n1 a + n2 a
end

/-- one name -/
def SLOT : Option RV → Option V → (Addr → Nat) → Prop
  | none, _, n => ∀ a, n a = 0
  | some rv, s, n => ∃ v, s = some v ∧ RO K cl F H rv v n
/-- the names -/
def SL : List (Option RV) → List (Option V) → (Addr → Nat) → Prop
  | [], ss, n => ss = [] ∧ ∀ a, n a = 0
  | r :: rs, ss, n => ∃ s us n1 n2, ss = s :: us ∧ SLOT K cl F H r s n1 ∧ SL rs us n2 ∧ ∀ a, n a = n1 a + n2 a

/-- what is owned is owned once, and isn't frozen; all of it is there -/
structure WF (n : Addr → Nat) : Prop where
  le : ∀ a, n a ≤ 1
  nf : ∀ a, n a ≠ 0 → ¬ F a
  ho : ∀ a, n a ≠ 0 → H a ≠ none
  hf : ∀ a, F a → H a ≠ none
end

/-- how one comes from (F, H) owning n to (F', H') owning n' -/
structure Ext (F : Addr → Prop) (H : Hp) (n : Addr → Nat) (F' : Addr → Prop) (H' : Hp) (n' : Addr → Nat) : Prop where
  frame : ∀ a o, H a = some o → n a = 0 → H' a = some o
  dom : ∀ a, H a ≠ none → H' a ≠ none
  fz : ∀ a, F a → F' a
  own : ∀ a, n' a ≠ 0 → n a ≠ 0 ∨ H a = none
  fzn : ∀ a, F' a → F a ∨ n a ≠ 0 ∨ H a = none

section
variable {K : PySem.W.Frag} {cl : Nat → Addr} {F F' F2 : Addr → Prop} {H H' H2 : Hp} {n n' n2 m : Addr → Nat}
theorem Ext.refl : Ext F H n F H n := ⟨fun _ _ h _ => h, fun _ h => h, fun _ h => h, fun _ h => .inl h, fun _ h => .inl h⟩
theorem Ext.trans (w : WF F H n) (x : Ext F H n F' H' n') (y : Ext F' H' n' F2 H2 n2) : Ext F H n F2 H2 n2 where
  frame := fun a o h hn => by
    have h1 := x.frame a o h hn
    by_cases q : n' a = 0
    · exact y.frame a o h1 q
    · rcases x.own a q with z | z
      · exact absurd hn z
      · rw [h] at z; cases z
  dom := fun a h => y.dom a (x.dom a h)
  fz := fun a h => y.fz a (x.fz a h)
  own := fun a h => by
    rcases y.own a h with z | z
    · exact x.own a z
    · right
      by_cases q : H a = none
      · exact q
      · exact absurd z (x.dom a q)
  fzn := fun a h => by
    rcases y.fzn a h with z | z | z
    · exact x.fzn a z
    · exact (x.own a z).elim (fun z => .inr (.inl z)) fun z => .inr (.inr z)
    · right; right
      by_cases q : H a = none
      · exact q
      · exact absurd z (x.dom a q)
/-- with more around -/
theorem WF.more (w : WF F H (fun a => n a + m a)) (x : Ext F H n F' H' n') (w' : WF F' H' n') : WF F' H' (fun a => n' a + m a) where
  le := fun a => by
    have h1 := w.le a
    have h2 := w'.le a
    by_cases q : m a = 0
    · omega
    · by_cases q' : n' a = 0
      · omega
      · rcases x.own a q' with z | z
        · omega
        · exact absurd z (w.ho a (by show n a + m a ≠ 0; omega))
  nf := fun a h hf => by
    by_cases q : n' a = 0
    · have hm : m a ≠ 0 := by have h' : n' a + m a ≠ 0 := h; omega
      have h1 := w.le a
      rcases x.fzn a hf with z | z | z
      · exact w.nf a (by show n a + m a ≠ 0; omega) z
      · omega
      · exact w.ho a (by show n a + m a ≠ 0; omega) z
    · exact w'.nf a q hf
  ho := fun a h => by
    by_cases q : n' a = 0
    · exact x.dom a (w.ho a (by have h' : n' a + m a ≠ 0 := h; show n a + m a ≠ 0; omega))
    · exact w'.ho a q
  hf := w'.hf
theorem Ext.more (w : WF F H (fun a => n a + m a)) (x : Ext F H n F' H' n') : Ext F H (fun a => n a + m a) F' H' (fun a => n' a + m a) where
  frame := fun a o h hn => x.frame a o h (by have h' : n a + m a = 0 := hn; omega)
  dom := x.dom
  fz := x.fz
  own := fun a h => by
    by_cases q : n' a = 0
    · exact .inl (by have h' : n' a + m a ≠ 0 := h; show n a + m a ≠ 0; omega)
    · rcases x.own a q with z | z
      · exact .inl (by show n a + m a ≠ 0; omega)
      · exact .inr z
  fzn := fun a h => by
    rcases x.fzn a h with z | z | z
    · exact .inl z
    · exact .inr (.inl (by show n a + m a ≠ 0; omega))
    · exact .inr (.inr z)
theorem WF.sub (w : WF F H n) (h : ∀ a, m a ≤ n a) : WF F H m :=
  ⟨fun a => Nat.le_trans (h a) (w.le a), fun a q => w.nf a (by have := h a; omega), fun a q => w.ho a (by have := h a; omega), w.hf⟩
theorem WF.congr (w : WF F H n) (h : ∀ a, m a = n a) : WF F H m := w.sub fun a => Nat.le_of_eq (h a)
theorem Ext.sub (x : Ext F H n F' H' n') (h : ∀ a, m a ≤ n' a) : Ext F H n F' H' m :=
  ⟨x.frame, x.dom, x.fz, fun a q => x.own a (by have := h a; omega), x.fzn⟩
theorem Ext.congr (x : Ext F H n F' H' n') (h : ∀ a, m a = n a) (h' : ∀ a, n2 a = n' a) : Ext F H m F' H' n2 :=
  ⟨fun a o e q => x.frame a o e (by rw [← h a]; exact q), x.dom, x.fz, fun a q => (x.own a (by rw [← h' a]; exact q)).imp (fun z => by rw [h a]; exact z) id,
    fun a q => (x.fzn a q).imp id (fun z => z.imp (fun z => by rw [h a]; exact z) id)⟩

theorem FT.mono {a : Addr} {vs : List V} (h : FT K F H a vs) (hf : ∀ a, F a → F' a) (hh : ∀ a, F a → H' a = H a) : FT K F' H' a vs := by
  rcases h with ⟨h1, h2⟩ | h
  · refine .inl ⟨hf a h1, ?_⟩
    unfold Rd at h2 ⊢
    rw [hh a h1]
    exact h2
  · exact .inr h
theorem FL.mono {a : Addr} {vs : List V} (h : FL K F H a vs) (hf : ∀ a, F a → F' a) (hh : ∀ a, F a → H' a = H a) : FL K F' H' a vs := by
  rcases h with ⟨h1, h2⟩ | h
  · refine .inl ⟨hf a h1, ?_⟩
    unfold Rd at h2 ⊢
    rw [hh a h1]
    exact h2
  · exact .inr h
theorem FT.seq {a : Addr} {vs : List V} (h : FT K F H a vs) : SqT K H a vs := h.imp (·.2) id
theorem FL.seq {a : Addr} {vs : List V} (h : FL K F H a vs) : SqL K H a vs := h.imp (·.2) id
mutual
theorem R.mono (hf : ∀ a, F a → F' a) (hh : ∀ a, F a → H' a = H a) : ∀ (d : D) {v : V}, R K cl F H d v → R K cl F' H' d v
  | .non, _, h => h
  | .bl _, _, h => h
  | .int _, _, h => h
  | .str _, _, h => h
  | .tup ds, _, ⟨a, vs, e, h, r⟩ => ⟨a, vs, e, h.mono hf hh, RL.mono hf hh ds r⟩
  | .lst ds, _, ⟨a, vs, e, h, h2, r⟩ => ⟨a, vs, e, hf a h, by rw [hh a h]; exact h2, RL.mono hf hh ds r⟩
  | .lsr ds, _, ⟨a, vs, e, h, r⟩ => ⟨a, vs, e, h.mono hf hh, RL.mono hf hh ds r⟩
  | .dct ks ds, _, ⟨a, kvs, e, h1, h2, h3, r⟩ => ⟨a, kvs, e, hf a h1, by rw [hh a h1]; exact h2, h3, RL.mono hf hh ds r⟩
  | .ins c ns ds, _, ⟨a, dx, vs, e, h1, h2, h3, r⟩ => ⟨a, dx, vs, e, hf a h1, by rw [hh a h1]; exact h2, h3, RL.mono hf hh ds r⟩
theorem RL.mono (hf : ∀ a, F a → F' a) (hh : ∀ a, F a → H' a = H a) : ∀ (ds : List D) {vs : List V}, RL K cl F H ds vs → RL K cl F' H' ds vs
  | [], _, h => h
  | d :: ds, _, ⟨v, us, e, r, rs⟩ => ⟨v, us, e, R.mono hf hh d r, RL.mono hf hh ds rs⟩
end
mutual
theorem RO.mono (hf : ∀ a, F a → F' a) (hh : ∀ a, F a → H' a = H a) : ∀ (r : RV) {v : V} {n : Addr → Nat}, (∀ a, n a ≠ 0 → H' a = H a) → RO K cl F H r v n → RO K cl F' H' r v n
  | .val d, _, _, _, ⟨h, z⟩ => ⟨R.mono hf hh d h, z⟩
  | .olst ds, _, _, k, ⟨a, vs, e, h, r, z⟩ => ⟨a, vs, e, by rw [k a (by rw [z a]; simp [one])]; exact h, RL.mono hf hh ds r, z⟩
  | .odct ks ds, _, _, k, ⟨a, kvs, e, h, h3, r, z⟩ => ⟨a, kvs, e, by rw [k a (by rw [z a]; simp [one])]; exact h, h3, RL.mono hf hh ds r, z⟩
  | .oins c ns rs, _, _, k, ⟨a, dx, vs, m, e, h, h3, r, z⟩ => ⟨a, dx, vs, m, e, by rw [k a (by rw [z a]; simp [one])]; exact h, h3, ROL.mono hf hh rs (fun b hb => k b (by rw [z b]; omega)) r, z⟩
  | .otup ds, _, _, k, ⟨⟨a, vs, o, e, h, ho, h2, r⟩, z⟩ => ⟨⟨a, vs, o, e, hf a h, ho, by rw [hh a h]; exact h2, RL.mono hf hh ds r⟩, z⟩
theorem ROL.mono (hf : ∀ a, F a → F' a) (hh : ∀ a, F a → H' a = H a) : ∀ (rs : List RV) {vs : List V} {n : Addr → Nat}, (∀ a, n a ≠ 0 → H' a = H a) → ROL K cl F H rs vs n → ROL K cl F' H' rs vs n
  | [], _, _, _, h => h
  | r :: rs, _, _, k, ⟨v, us, n1, n2, e, q, qs, z⟩ => ⟨v, us, n1, n2, e, RO.mono hf hh r (fun b hb => k b (by rw [z b]; omega)) q, ROL.mono hf hh rs (fun b hb => k b (by rw [z b]; omega)) qs, z⟩
end
theorem SL.mono (hf : ∀ a, F a → F' a) (hh : ∀ a, F a → H' a = H a) : ∀ {rs : List (Option RV)} {ss : List (Option V)} {n : Addr → Nat}, (∀ a, n a ≠ 0 → H' a = H a) → SL K cl F H rs ss n → SL K cl F' H' rs ss n
  | [], _, _, _, h => h
  | none :: rs, _, _, k, ⟨s, us, n1, n2, e, q, qs, z⟩ => ⟨s, us, n1, n2, e, q, SL.mono hf hh (fun b hb => k b (by rw [z b]; omega)) qs, z⟩
  | some r :: rs, _, _, k, ⟨s, us, n1, n2, e, ⟨v, e2, q⟩, qs, z⟩ => ⟨s, us, n1, n2, e, ⟨v, e2, RO.mono hf hh r (fun b hb => k b (by rw [z b]; omega)) q⟩, SL.mono hf hh (fun b hb => k b (by rw [z b]; omega)) qs, z⟩
/-- frozen: what was owned, too -/
def Fp (F : Addr → Prop) (n : Addr → Nat) : Addr → Prop := fun a => F a ∨ n a ≠ 0
mutual
theorem RO.frz : ∀ (r : RV) {v : V} {n : Addr → Nat}, RO K cl F H r v n → R K cl (Fp F n) H r.fr v
  | .val d, _, _, ⟨h, z⟩ => R.mono (fun _ q => .inl q) (fun _ _ => rfl) d h
  | .olst ds, _, n, ⟨a, vs, e, h, r, z⟩ => by
    unfold RV.fr
    exact ⟨a, vs, e, .inr (by rw [z a]; simp [one]), h, RL.mono (fun _ q => .inl q) (fun _ _ => rfl) ds r⟩
  | .odct ks ds, _, n, ⟨a, kvs, e, h, h3, r, z⟩ => by
    unfold RV.fr
    exact ⟨a, kvs, e, .inr (by rw [z a]; simp [one]), h, h3, RL.mono (fun _ q => .inl q) (fun _ _ => rfl) ds r⟩
  | .oins c ns rs, _, n, ⟨a, dx, vs, m, e, h, h3, r, z⟩ => by
    unfold RV.fr
    refine ⟨a, dx, vs, e, .inr (by rw [z a]; simp [one]), h, h3, ?_⟩
    exact RL.mono (fun b q => q.imp id fun q => by rw [z b]; omega) (fun _ _ => rfl) _ (ROL.frz rs r)
  | .otup ds, _, n, ⟨⟨a, vs, o, e, h, ho, h2, r⟩, z⟩ => by
    unfold RV.fr
    exact ⟨a, vs, e, .inl ⟨.inl h, .inr ⟨o, h2⟩⟩, RL.mono (fun _ q => .inl q) (fun _ _ => rfl) ds r⟩
theorem ROL.frz : ∀ (rs : List RV) {vs : List V} {n : Addr → Nat}, ROL K cl F H rs vs n → RL K cl (Fp F n) H (RV.frs rs) vs
  | [], _, _, ⟨h, _⟩ => by unfold RV.frs; exact h
  | r :: rs, _, n, ⟨v, us, n1, n2, e, q, qs, z⟩ => by
    unfold RV.frs
    exact ⟨v, us, e, R.mono (fun b q => q.imp id fun q => by rw [z b]; omega) (fun _ _ => rfl) _ (RO.frz r q), RL.mono (fun b q => q.imp id fun q => by rw [z b]; omega) (fun _ _ => rfl) _ (ROL.frz rs qs)⟩
end
/-- freezing a part -/
theorem WF.frz (w : WF F H (fun a => n a + m a)) : WF (Fp F n) H m where
  le := fun a => by have := w.le a; omega
  nf := fun a h hf => by
    rcases hf with z | z
    · exact w.nf a (by show n a + m a ≠ 0; omega) z
    · have := w.le a; omega
  ho := fun a h => w.ho a (by show n a + m a ≠ 0; omega)
  hf := fun a h => by
    rcases h with z | z
    · exact w.hf a z
    · exact w.ho a (by show n a + m a ≠ 0; omega)
theorem Ext.frz : Ext F H (fun a => n a + m a) (Fp F n) H m where
  frame := fun _ _ h _ => h
  dom := fun _ h => h
  fz := fun _ h => .inl h
  own := fun a h => .inl (by show n a + m a ≠ 0; omega)
  fzn := fun a h => h.imp id fun z => .inl (by show n a + m a ≠ 0; omega)

/-- the name at i -/
theorem SL.get : ∀ {rs : List (Option RV)} {ss : List (Option V)} {n : Addr → Nat} {i : Nat} {r : RV}, SL K cl F H rs ss n → rs[i]? = some (some r) →
    ∃ (v : V) (n1 n2 : Addr → Nat), ss[i]? = some (some v) ∧ RO K cl F H r v n1 ∧ (∀ a, n a = n1 a + n2 a) ∧
      (∀ {F' : Addr → Prop} {H' : Hp} {r' : Option RV} {s' : Option V} {m : Addr → Nat}, (∀ a, F a → F' a) → (∀ a, F a → H' a = H a) → (∀ a, n2 a ≠ 0 → H' a = H a) →
        SLOT K cl F' H' r' s' m → SL K cl F' H' (rs.set i r') (ss.set i s') (fun a => m a + n2 a))
  | [], _, _, _, _, _, e => by simp at e
  | r0 :: rs, _, n, 0, r, ⟨s, us, n1, n2, e1, q, qs, z⟩, e => by
    simp at e
    subst e
    obtain ⟨v, e2, q⟩ := q
    refine ⟨v, n1, n2, by rw [e1, e2]; rfl, q, z, fun {F' H' r' s' m} hf hh k hm => ?_⟩
    rw [e1]
    exact ⟨s', us, m, n2, rfl, hm, SL.mono hf hh k qs, fun _ => rfl⟩
  | r0 :: rs, _, n, i + 1, r, ⟨s, us, n1, n2, e1, q, qs, z⟩, e => by
    obtain ⟨v, m1, m2, e2, q2, z2, k⟩ := SL.get (i := i) qs (by simpa using e)
    refine ⟨v, m1, fun a => n1 a + m2 a, by rw [e1]; simpa using e2, q2, fun a => by have h1 := z a; have h2 := z2 a; show n a = m1 a + (n1 a + m2 a); omega, fun {F' H' r' s' m} hf hh kk hm => ?_⟩
    rw [e1]
    refine ⟨s, us.set i s', n1, fun a => m a + m2 a, rfl, ?_, k hf hh (fun a ha => kk a (by show n1 a + m2 a ≠ 0; omega)) hm, fun a => by show m a + (n1 a + m2 a) = n1 a + (m a + m2 a); omega⟩
    cases r0 with
    | none => exact q
    | some r0 =>
      obtain ⟨v0, e0, q0⟩ := q
      exact ⟨v0, e0, RO.mono hf hh r0 (fun a ha => kk a (by show n1 a + m2 a ≠ 0; omega)) q0⟩
/-- a name is stored -/
theorem SL.put : ∀ {rs : List (Option RV)} {ss : List (Option V)} {n : Addr → Nat} {i : Nat}, SL K cl F H rs ss n → i < rs.length →
    ∃ n2 : Addr → Nat, (∀ a, n2 a ≤ n a) ∧ ∀ {r' : Option RV} {s' : Option V} {m : Addr → Nat}, SLOT K cl F H r' s' m → SL K cl F H (rs.set i r') (ss.set i s') (fun a => m a + n2 a)
  | [], _, _, _, _, e => by simp at e
  | r0 :: rs, _, n, 0, ⟨s, us, n1, n2, e1, q, qs, z⟩, e => by
    refine ⟨n2, fun a => by rw [z a]; omega, fun {r' s' m} hm => ?_⟩
    rw [e1]
    exact ⟨s', us, m, n2, rfl, hm, qs, fun _ => rfl⟩
  | r0 :: rs, _, n, i + 1, ⟨s, us, n1, n2, e1, q, qs, z⟩, e => by
    obtain ⟨m2, z2, k⟩ := SL.put (i := i) qs (by simpa using e)
    refine ⟨fun a => n1 a + m2 a, fun a => by have h1 := z a; have h2 := z2 a; show n1 a + m2 a ≤ n a; omega, fun {r' s' m} hm => ?_⟩
    rw [e1]
    exact ⟨s, us.set i s', n1, fun a => m a + m2 a, rfl, q, k hm, fun a => by show m a + (n1 a + m2 a) = n1 a + (m a + m2 a); omega⟩
theorem SL.length : ∀ {rs : List (Option RV)} {ss : List (Option V)} {n : Addr → Nat}, SL K cl F H rs ss n → ss.length = rs.length
  | [], _, _, ⟨e, _⟩ => by rw [e]; rfl
  | _ :: rs, _, _, ⟨_, us, _, _, e, _, q, _⟩ => by rw [e, List.length_cons, List.length_cons, SL.length q]
theorem RL.length : ∀ {ds : List D} {vs : List V}, RL K cl F H ds vs → vs.length = ds.length
  | [], _, e => by rw [show _ = [] from e]; rfl
  | _ :: ds, _, ⟨_, us, e, _, q⟩ => by rw [e, List.length_cons, List.length_cons, RL.length q]
theorem RL.get : ∀ {ds : List D} {vs : List V} {i : Nat} {d : D}, RL K cl F H ds vs → ds[i]? = some d → ∃ v, vs[i]? = some v ∧ R K cl F H d v
  | [], _, _, _, _, e => by simp at e
  | d0 :: ds, _, 0, d, ⟨v, us, e1, q, _⟩, e => by
    simp at e
    subst e
    exact ⟨v, by rw [e1]; rfl, q⟩
  | d0 :: ds, _, i + 1, d, ⟨v, us, e1, _, qs⟩, e => by
    obtain ⟨u, e2, q⟩ := RL.get (i := i) qs (by simpa using e)
    exact ⟨u, by rw [e1]; simpa using e2, q⟩
theorem RL.append : ∀ {ds es : List D} {vs us : List V}, RL K cl F H ds vs → RL K cl F H es us → RL K cl F H (ds ++ es) (vs ++ us)
  | [], _, _, _, e, q => by rw [show _ = [] from e]; exact q
  | d :: ds, _, _, _, ⟨v, ws, e, r, rs⟩, q => by
    rw [e]
    exact ⟨v, ws ++ _, rfl, r, RL.append rs q⟩
theorem RL.take : ∀ {ds : List D} {vs : List V} (i : Nat), RL K cl F H ds vs → RL K cl F H (ds.take i) (vs.take i)
  | _, _, 0, _ => by simp [RL]
  | [], _, i + 1, e => by rw [show _ = [] from e]; simp [RL]
  | d :: ds, _, i + 1, ⟨v, ws, e, r, rs⟩ => by
    rw [e]
    exact ⟨v, ws.take i, rfl, r, RL.take i rs⟩
theorem RL.drop : ∀ {ds : List D} {vs : List V} (i : Nat), RL K cl F H ds vs → RL K cl F H (ds.drop i) (vs.drop i)
  | _, _, 0, h => h
  | [], _, i + 1, e => by rw [show _ = [] from e]; simp [RL]
  | d :: ds, _, i + 1, ⟨v, ws, e, r, rs⟩ => by
    rw [e]
    exact RL.drop i rs
theorem RL.set : ∀ {ds : List D} {vs : List V} (i : Nat) {d : D} {v : V}, RL K cl F H ds vs → R K cl F H d v → RL K cl F H (ds.set i d) (vs.set i v)
  | [], _, _, _, _, e, _ => by rw [show _ = [] from e]; simp [RL]
  | d0 :: ds, _, 0, _, _, ⟨v, ws, e, r, rs⟩, q => by
    rw [e]
    exact ⟨_, ws, rfl, q, rs⟩
  | d0 :: ds, _, i + 1, _, _, ⟨v, ws, e, r, rs⟩, q => by
    rw [e]
    exact ⟨v, _, rfl, r, RL.set i rs q⟩
end
end KR

set_option Elab.async false
set_option linter.all false
set_option maxRecDepth 100000
set_option maxHeartbeats 2000000
/-! Denotations, and what it says that an expression denotes. -/
namespace KR
open PySem L2 PyProof.Rows

/-- an exception of the program's own: its class, its fields -/
structure XV where
  c : Nat
  ns : List Str
  fs : List D
abbrev Env := List (Option RV)
abbrev M (α : Type) := Env → Option (Except XV α × Env)
/-- how a statement ends -/
inductive Fl where
  | nx | bk | ct
  | ret (r : RV)
abbrev S := List Nat → M Fl

def ret {α : Type} (a : α) : M α := fun ρ => some (.ok a, ρ)
def stuck {α : Type} : M α := fun _ => none
def bnd {α β : Type} (x : M α) (f : α → M β) : M β := fun ρ =>
  match x ρ with
  | none => none
  | some (.error e, ρ') => some (.error e, ρ')
  | some (.ok a, ρ') => f a ρ'
def lift {α : Type} (o : Option α) : M α := fun ρ =>
  match o with
  | none => none
  | some a => some (.ok a, ρ)

/-- how an exception lies -/
def RX (K : PySem.W.Frag) (cl : Nat → Addr) (F : Addr → Prop) (H : Hp) (x : XV) (c : Value) (dx : Option Addr) : Prop :=
  c = .ref (cl x.c) ∧ ((x.ns = [] ∧ dx = none) ∨ ∃ (d : Addr) (vs : List V), dx = some d ∧ F d ∧ H d = some (.xd (x.ns.zip vs)) ∧ x.ns.length = vs.length ∧ RL K cl F H x.fs vs)

section
variable (K : PySem.W.Frag) (cl : Nat → Addr) (W : WX)
/-- what an exception must meet -/
def tX (F : Addr → Prop) (H : Hp) (n : Addr → Nat) (σ : L2.St) (x : XV) (ρ' : Env) : Prop :=
  ∀ (c : Value) (dx : Option Addr) (F' : Addr → Prop) (H' : Hp) (n' : Addr → Nat), RX K cl F' H' x c dx → SL K cl F' H' ρ' σ n' → WF F' H' n' → Ext F H n F' H' n' → W c dx σ H'
/-- an outcome: what is wanted where it is no exception -/
def Mt {α : Type} (F : Addr → Prop) (H : Hp) (n : Addr → Nat) (σ : L2.St) (o : Option (Except XV α × Env)) (P : α → Env → Prop) : Prop :=
  match o with
  | none => False
  | some (.ok x, ρ') => P x ρ'
  | some (.error x, ρ') => tX K cl W F H n σ x ρ'
def pD (F : Addr → Prop) (H : Hp) (n : Addr → Nat) (σ : L2.St) (Q : VK) : D → Env → Prop := fun x ρ' =>
  ∀ (v : V) (F' : Addr → Prop) (H' : Hp) (n' : Addr → Nat), R K cl F' H' x v → SL K cl F' H' ρ' σ n' → WF F' H' n' → Ext F H n F' H' n' → Q v H'
def pO (F : Addr → Prop) (H : Hp) (n : Addr → Nat) (σ : L2.St) (Q : VK) : RV → Env → Prop := fun x ρ' =>
  ∀ (v : V) (F' : Addr → Prop) (H' : Hp) (m n' : Addr → Nat), RO K cl F' H' x v m → SL K cl F' H' ρ' σ n' → WF F' H' (fun a => m a + n' a) → Ext F H n F' H' (fun a => m a + n' a) → Q v H'
def pA (F : Addr → Prop) (H : Hp) (n : Addr → Nat) (σ : L2.St) (Q : List V → Hp → Prop) : List D → Env → Prop := fun xs ρ' =>
  ∀ (vs : List V) (F' : Addr → Prop) (H' : Hp) (n' : Addr → Nat), RL K cl F' H' xs vs → SL K cl F' H' ρ' σ n' → WF F' H' n' → Ext F H n F' H' n' → Q vs H'
def pT (F : Addr → Prop) (H : Hp) (n : Addr → Nat) (σ : L2.St) (Q : Bool → Hp → Prop) : Bool → Env → Prop := fun b ρ' =>
  ∀ (F' : Addr → Prop) (H' : Hp) (n' : Addr → Nat), SL K cl F' H' ρ' σ n' → WF F' H' n' → Ext F H n F' H' n' → Q b H'
/-- data, frozen -/
def tE (d : M D) : TE := fun σ H Q => ∃ (F : Addr → Prop) (ρ : Env) (n : Addr → Nat), SL K cl F H ρ σ n ∧ WF F H n ∧ Mt K cl W F H n σ (d ρ) (pD K cl F H n σ Q)
/-- what may be owned -/
def tO (d : M RV) : TE := fun σ H Q => ∃ (F : Addr → Prop) (ρ : Env) (n : Addr → Nat), SL K cl F H ρ σ n ∧ WF F H n ∧ Mt K cl W F H n σ (d ρ) (pO K cl F H n σ Q)
/-- a list of data -/
def tA (d : M (List D)) : TA := fun σ H Q => ∃ (F : Addr → Prop) (ρ : Env) (n : Addr → Nat), SL K cl F H ρ σ n ∧ WF F H n ∧ Mt K cl W F H n σ (d ρ) (pA K cl F H n σ Q)
/-- a test -/
def tT (d : M Bool) : TT := fun σ H Q => ∃ (F : Addr → Prop) (ρ : Env) (n : Addr → Nat), SL K cl F H ρ σ n ∧ WF F H n ∧ Mt K cl W F H n σ (d ρ) (pT K cl F H n σ Q)
/-- the locked places are as they were -/
def Lk (lk : List Nat) (σ σ' : L2.St) : Prop := ∀ i ∈ lk, σ'[i]? = σ[i]?
def pN (F : Addr → Prop) (H : Hp) (n : Addr → Nat) (lk : List Nat) (σ : L2.St) (Q : L2.St → Hp → Prop) (ρ' : Env) : Prop :=
  ∀ (σ' : L2.St) (F' : Addr → Prop) (H' : Hp) (n' : Addr → Nat), SL K cl F' H' ρ' σ' n' → WF F' H' n' → Ext F H n F' H' n' → Lk lk σ σ' → Q σ' H'
def pR (F : Addr → Prop) (H : Hp) (n : Addr → Nat) (lk : List Nat) (σ : L2.St) (Q : VK) (x : RV) (ρ' : Env) : Prop :=
  ∀ (v : V) (σ' : L2.St) (F' : Addr → Prop) (H' : Hp) (m n' : Addr → Nat), RO K cl F' H' x v m → SL K cl F' H' ρ' σ' n' → WF F' H' (fun a => m a + n' a) → Ext F H n F' H' (fun a => m a + n' a) → Lk lk σ σ' → Q v H'
def pX (F : Addr → Prop) (H : Hp) (n : Addr → Nat) (lk : List Nat) (σ : L2.St) (x : XV) (ρ' : Env) : Prop :=
  ∀ (c : Value) (dx : Option Addr) (σ' : L2.St) (F' : Addr → Prop) (H' : Hp) (n' : Addr → Nat), RX K cl F' H' x c dx → SL K cl F' H' ρ' σ' n' → WF F' H' n' → Ext F H n F' H' n' → Lk lk σ σ' → W c dx σ' H'
/-- how a statement's end must meet what is wanted -/
def Ms (F : Addr → Prop) (H : Hp) (n : Addr → Nat) (lk : List Nat) (σ : L2.St) (D : Ends) (o : Option (Except XV Fl × Env)) : Prop :=
  match o with
  | none => False
  | some (.ok .nx, ρ') => pN K cl F H n lk σ D.nx ρ'
  | some (.ok .bk, ρ') => pN K cl F H n lk σ D.bk ρ'
  | some (.ok .ct, ρ') => pN K cl F H n lk σ D.ct ρ'
  | some (.ok (.ret x), ρ') => pR K cl F H n lk σ D.rt x ρ'
  | some (.error x, ρ') => pX K cl W F H n lk σ x ρ'
/-- a statement; lk: the places that may not be stored -/
def tS (lk : List Nat) (d : S) : TS := fun D σ H => ∃ (F : Addr → Prop) (ρ : Env) (n : Addr → Nat), SL K cl F H ρ σ n ∧ WF F H n ∧ Ms K cl W F H n lk σ D (d lk ρ)
end

/-- what is fixed within a body: the classes' places, what is wanted of exceptions -/
structure Cf where
  X : Cx
  cl : Nat → Addr
  W : WX
  k : Nat
  CX : CXT
  room : Room k X.A
  calm : X.calm = true
  nd : X.N.Nodup
  pass : ∀ σ, PassesAt CX X σ (fun c d H => W c d σ H)
  cxF : ∀ outer H s e s', ¬ CX outer H s (fun _ _ _ => False) e s'
  own : PassesOwn (model X.prog X.w) X.A X.env X.xe

def DE (C : Cf) (e : Expr) (d : M D) : Prop := PE C.X e (tE C.X.K C.cl C.W d)
def DO (C : Cf) (e : Expr) (d : M RV) : Prop := PE C.X e (tO C.X.K C.cl C.W d)
def DA (C : Cf) (es : List Expr) (d : M (List D)) : Prop := PA C.X es (tA C.X.K C.cl C.W d)
def DT (C : Cf) (e : Expr) (d : M Bool) : Prop := PT C.X e (tT C.X.K C.cl C.W d)
def DS (C : Cf) (lk : List Nat) (st : Stmt) (d : S) : Prop := PS C.X st (tS C.X.K C.cl C.W lk d)
def DB (C : Cf) (lk : List Nat) (sts : List Stmt) (d : S) : Prop := PSs C.X sts (tS C.X.K C.cl C.W lk d)

theorem PE.imp {X : Cx} {e : Expr} {t t' : TE} (h : PE X e t) (i : ∀ σ H Q, t' σ H Q → t σ H Q) : PE X e t' := ⟨fun pins s σ H Q I q => h.run pins s σ H Q I (i σ H Q q)⟩
theorem PA.imp {X : Cx} {es : List Expr} {t t' : TA} (h : PA X es t) (i : ∀ σ H Q, t' σ H Q → t σ H Q) : PA X es t' := ⟨fun pos pins s σ H Q I q => h.run pos pins s σ H Q I (i σ H Q q)⟩
theorem PT.imp {X : Cx} {e : Expr} {t t' : TT} (h : PT X e t) (i : ∀ σ H Q, t' σ H Q → t σ H Q) : PT X e t' := ⟨fun pins s σ H Q I q => h.run pins s σ H Q I (i σ H Q q)⟩
theorem PS.imp {X : Cx} {st : Stmt} {t t' : TS} (h : PS X st t) (i : ∀ D σ H, t' D σ H → t D σ H) : PS X st t' := ⟨fun pins s σ H D I q => h.run pins s σ H D I (i D σ H q)⟩
theorem PSs.imp {X : Cx} {st : List Stmt} {t t' : TS} (h : PSs X st t) (i : ∀ D σ H, t' D σ H → t D σ H) : PSs X st t' := ⟨fun pins s σ H D I q => h.run pins s σ H D I (i D σ H q)⟩

section
variable {K : PySem.W.Frag} {cl : Nat → Addr} {W : WX} {F F' : Addr → Prop} {H H' : Hp} {n n' m : Addr → Nat} {σ : L2.St} {Q : VK}
/-- behind a first part: exceptions go on -/
theorem tX.trans {x : XV} {ρ' : Env} (w : WF F H n) (e : Ext F H n F' H' n') (h : tX K cl W F H n σ x ρ') : tX K cl W F' H' n' σ x ρ' :=
  fun c dx F2 H2 n2 rx sl wf ex => h c dx F2 H2 n2 rx sl wf (e.trans w ex)
theorem Mt.step {α : Type} {o : Option (Except XV α × Env)} {P P' : α → Env → Prop} (w : WF F H n) (e : Ext F H n F' H' n') (h : Mt K cl W F H n σ o P) (hp : ∀ a ρ', P a ρ' → P' a ρ') : Mt K cl W F' H' n' σ o P' := by
  unfold Mt at h ⊢
  split at h
  · exact h
  · exact hp _ _ h
  · exact tX.trans w e h
theorem Mt.imp {α : Type} {o : Option (Except XV α × Env)} {P P' : α → Env → Prop} (h : Mt K cl W F H n σ o P) (hp : ∀ a ρ', P a ρ' → P' a ρ') : Mt K cl W F H n σ o P' := by
  unfold Mt at h ⊢
  split at h
  · exact h
  · exact hp _ _ h
  · exact h
theorem Mt.bnd {α β : Type} {d : M α} {f : α → M β} {ρ : Env} {P : β → Env → Prop} (h : Mt K cl W F H n σ (bnd d f ρ) P) : Mt K cl W F H n σ (d ρ) fun a ρ' => Mt K cl W F H n σ (f a ρ') P := by
  unfold KR.bnd at h
  cases e : d ρ with
  | none => rw [e] at h; exact h
  | some p =>
    obtain ⟨r, ρ'⟩ := p
    rw [e] at h
    cases r with
    | error x => exact h
    | ok a => exact h
theorem pD.step {x : D} {ρ' : Env} (w : WF F H n) (e : Ext F H n F' H' n') (h : pD K cl F H n σ Q x ρ') : pD K cl F' H' n' σ Q x ρ' := fun v F2 H2 n2 r s wf ex => h v F2 H2 n2 r s wf (e.trans w ex)
theorem pO.step {x : RV} {ρ' : Env} (w : WF F H n) (e : Ext F H n F' H' n') (h : pO K cl F H n σ Q x ρ') : pO K cl F' H' n' σ Q x ρ' := fun v F2 H2 m n2 r s wf ex => h v F2 H2 m n2 r s wf (e.trans w ex)
theorem pA.step {x : List D} {ρ' : Env} {Q : List V → Hp → Prop} (w : WF F H n) (e : Ext F H n F' H' n') (h : pA K cl F H n σ Q x ρ') : pA K cl F' H' n' σ Q x ρ' := fun v F2 H2 n2 r s wf ex => h v F2 H2 n2 r s wf (e.trans w ex)
theorem pT.step {x : Bool} {ρ' : Env} {Q : Bool → Hp → Prop} (w : WF F H n) (e : Ext F H n F' H' n') (h : pT K cl F H n σ Q x ρ') : pT K cl F' H' n' σ Q x ρ' := fun F2 H2 n2 s wf ex => h F2 H2 n2 s wf (e.trans w ex)
theorem frame_eq (w : WF F H n) (e : Ext F H n F' H' n') : ∀ a, F a → H' a = H a := fun a h => by
  cases q : H a with
  | none => exact absurd q (w.hf a h)
  | some o =>
    have hn : n a = 0 := Decidable.byContradiction fun z => w.nf a z h
    exact e.frame a o q hn
theorem R.ext {d : D} {v : V} (r : R K cl F H d v) (w : WF F H n) (e : Ext F H n F' H' n') : R K cl F' H' d v := r.mono e.fz (frame_eq w e) d
theorem RL.ext {ds : List D} {vs : List V} (r : RL K cl F H ds vs) (w : WF F H n) (e : Ext F H n F' H' n') : RL K cl F' H' ds vs := RL.mono e.fz (frame_eq w e) ds r
/-- a new object, frozen -/
theorem new_frz {p : Addr} {o : HO} (w : WF F H n) (hp : H p = none) : WF (fun a => F a ∨ a = p) (upd H p o) n ∧ Ext F H n (fun a => F a ∨ a = p) (upd H p o) n := by
  have ne : ∀ a, H a ≠ none → a ≠ p := fun a h e => h (by rw [e]; exact hp)
  refine ⟨⟨w.le, fun a h q => ?_, fun a h => ?_, fun a h => ?_⟩, ⟨fun a o' h _ => ?_, fun a h => ?_, fun a h => .inl h, fun a h => .inl h, fun a h => ?_⟩⟩
  · rcases q with q | q
    · exact w.nf a h q
    · exact ne a (w.ho a h) q
  · rw [upd_ne (ne a (w.ho a h))]; exact w.ho a h
  · rcases h with h | h
    · rw [upd_ne (ne a (w.hf a h))]; exact w.hf a h
    · rw [h, upd_same]; simp
  · rw [upd_ne (ne a (by rw [h]; simp))]; exact h
  · rw [upd_ne (ne a h)]; exact h
  · rcases h with h | h
    · exact .inl h
    · exact .inr (.inr (by rw [h]; exact hp))
/-- a new object, owned -/
theorem new_own {p : Addr} {o : HO} (w : WF F H n) (hp : H p = none) : WF F (upd H p o) (fun a => one p a + n a) ∧ Ext F H n F (upd H p o) (fun a => one p a + n a) := by
  have ne : ∀ a, H a ≠ none → a ≠ p := fun a h e => h (by rw [e]; exact hp)
  have np : n p = 0 := Decidable.byContradiction fun z => w.ho p z hp
  have z : ∀ a, one p a + n a ≠ 0 → a = p ∨ n a ≠ 0 := fun a h => by
    by_cases q : a = p
    · exact .inl q
    · right; unfold one at h; rw [if_neg q] at h; omega
  refine ⟨⟨fun a => ?_, fun a h q => ?_, fun a h => ?_, fun a h => ?_⟩, ⟨fun a o' h _ => ?_, fun a h => ?_, fun a h => h, fun a h => ?_, fun a h => .inl h⟩⟩
  · have := w.le a
    unfold one
    by_cases q : a = p
    · subst q; rw [if_pos rfl]; omega
    · rw [if_neg q]; omega
  · rcases z a h with h | h
    · rw [h] at q; exact w.hf p q hp
    · exact w.nf a h q
  · rcases z a h with h | h
    · rw [h, upd_same]; simp
    · rw [upd_ne (ne a (w.ho a h))]; exact w.ho a h
  · rw [upd_ne (ne a (w.hf a h))]; exact w.hf a h
  · rw [upd_ne (ne a (by rw [h]; simp))]; exact h
  · rw [upd_ne (ne a h)]; exact h
  · rcases z a h with h | h
    · exact .inr (by rw [h]; exact hp)
    · exact .inl h
theorem SL.ext {ρ : Env} (s : SL K cl F H ρ σ n) (w : WF F H n) (hf : ∀ a, F a → F' a) (hh : ∀ a, H a ≠ none → H' a = H a) : SL K cl F' H' ρ σ n :=
  SL.mono hf (fun a h => hh a (w.hf a h)) (fun a h => hh a (w.ho a h)) s
end

section
variable {C : Cf} {a b c : Expr} {da db dc : M D} {pos : Pos}
/-- owned or not: frozen -/
def frz (d : M RV) : M D := bnd d fun r => ret r.fr
def val (d : M D) : M RV := bnd d fun r => ret (.val r)
theorem e_frz {d : M RV} (h : DO C a d) : DE C a (frz d) := by
  refine PE.imp h fun σ H Q ⟨F, ρ, n, sl, wf, q⟩ => ⟨F, ρ, n, sl, wf, q.bnd.imp fun r ρ' q => ?_⟩
  intro v F' H' m n' ro sl' wf' ex
  exact q v (Fp F' m) H' n' (RO.frz r ro) (SL.mono (fun _ z => .inl z) (fun _ _ => rfl) (fun _ _ => rfl) sl') wf'.frz (ex.trans wf Ext.frz)
theorem o_val (h : DE C a da) : DO C a (val da) := by
  refine PE.imp h fun σ H Q ⟨F, ρ, n, sl, wf, q⟩ => ⟨F, ρ, n, sl, wf, q.bnd.imp fun r ρ' q => ?_⟩
  intro v F' H' n' ro sl' wf' ex
  exact q v F' H' (fun _ => 0) n' ⟨ro, fun _ => rfl⟩ sl' (wf'.congr fun _ => by show 0 + _ = _; omega) (ex.congr (fun _ => rfl) fun _ => by show 0 + _ = _; omega)

/-- a value that leans on nothing -/
theorem e_const {x : D} {v : V} (h : PE C.X a (tC v)) (r : ∀ F H, R C.X.K C.cl F H x v) : DE C a (ret x) := by
  refine PE.imp h fun σ H Q ⟨F, ρ, n, sl, wf, q⟩ => ?_
  exact q v F H n (r F H) sl wf Ext.refl
theorem e_int {i j} : DE C (.Constant (.int i) j pos) (ret (.int i)) := e_const pe_int fun _ _ => rfl
theorem e_bl {i j} : DE C (.Constant (.bool i) j pos) (ret (.bl i)) := e_const pe_bl fun _ _ => rfl
theorem e_non {j} : DE C (.Constant .none j pos) (ret .non) := e_const pe_non fun _ _ => rfl
theorem e_str {x j} : DE C (.Constant (.str x) j pos) (ret (.str x)) := e_const pe_str fun _ _ => rfl
theorem e_glob {x : Str} {v : V} {u : Value} {d : D} (hg : Gl C.X x) (hm : C.X.mg x = some u) (r : RelV v u) (q : ∀ F H, R C.X.K C.cl F H d v) (hd : (x == ("__debug__" : Str)) = false := by decide) : DE C (.Name x pos) (ret d) :=
  e_const (pe_glob hg hm r hd) q

/-- the name at i: what it owns is frozen by this -/
def getv (i : Nat) : M D := fun ρ => match ρ[i]? with
  | some (some (.val d)) => some (.ok d, ρ)
  | some (some (.otup xs)) => some (.ok (.tup xs), ρ)
  | some (some r) => some (.ok r.fr, ρ.set i (some (.val r.fr)))
  | _ => none
theorem e_name {i : Nat} {x : Str} (h : PE C.X (.Name x pos) (tVar i)) : DE C (.Name x pos) (getv i) := by
  refine PE.imp h fun σ H Q ⟨F, ρ, n, sl, wf, q⟩ => ?_
  unfold getv at q
  cases e : ρ[i]? with
  | none => rw [e] at q; exact q.elim
  | some r0 =>
    cases r0 with
    | none => rw [e] at q; exact q.elim
    | some r =>
      rw [e] at q
      obtain ⟨v, n1, n2, ev, ro, hn, put⟩ := SL.get sl e
      refine ⟨v, ev, ?_⟩
      have w' : WF F H (fun a => n1 a + n2 a) := wf.congr fun a => (hn a).symm
      have hset : σ.set i (some v) = σ := by
        have hi := List.getElem?_eq_some_iff.mp ev
        obtain ⟨h1, h2⟩ := hi
        rw [← h2]; exact List.set_getElem_self h1
      have key : ∀ r : RV, RO C.X.K C.cl F H r v n1 → (∀ (v : V) (F' : Addr → Prop) (H' : Hp) (n' : Addr → Nat), R C.X.K C.cl F' H' r.fr v → SL C.X.K C.cl F' H' (ρ.set i (some (.val r.fr))) σ n' → WF F' H' n' → Ext F H n F' H' n' → Q v H') → Q v H := fun r ro q => by
        have s2 : SL C.X.K C.cl (Fp F n1) H (ρ.set i (some (.val r.fr))) (σ.set i (some v)) (fun a => (fun _ => 0) a + n2 a) :=
          put (F' := Fp F n1) (H' := H) (r' := some (.val r.fr)) (s' := some v) (m := fun _ => 0) (fun _ z => .inl z) (fun _ _ => rfl) (fun _ _ => rfl) ⟨v, rfl, RO.frz r ro, fun _ => rfl⟩
        rw [hset] at s2
        refine q v (Fp F n1) H _ (RO.frz r ro) s2 (w'.frz.congr fun a => by show 0 + n2 a = n2 a; omega) ?_
        exact (Ext.frz (F := F) (n := n1) (m := n2)).congr hn fun a => by show 0 + n2 a = n2 a; omega
      cases r with
      | val d => exact q v F H n ro.1 sl wf Ext.refl
      | olst xs => exact key _ ro q
      | odct ks vs => exact key _ ro q
      | oins c ns fs => exact key _ ro q
      | otup xs =>
        obtain ⟨⟨a, vs, o, ea, hF, _, h2, rl⟩, _⟩ := ro
        exact q v F H n ⟨a, vs, ea, .inl ⟨hF, .inr ⟨o, h2⟩⟩, rl⟩ sl wf Ext.refl

/-- two parts in a row -/
theorem two {r : R2} {g : D → D → M D} {σ : L2.St} {H : Hp} {Q : VK} (h : tE C.X.K C.cl C.W (bnd da fun x => bnd db fun y => g x y) σ H Q)
    (step : ∀ (F : Addr → Prop) (H : Hp) (n : Addr → Nat) (ρ : Env) (x y : D) (vx vy : V), R C.X.K C.cl F H x vx → R C.X.K C.cl F H y vy → SL C.X.K C.cl F H ρ σ n → WF F H n →
      Mt C.X.K C.cl C.W F H n σ (g x y ρ) (pD C.X.K C.cl F H n σ Q) → r vx vy H Q) :
    tOp r (tE C.X.K C.cl C.W da) (tE C.X.K C.cl C.W db) σ H Q := by
  obtain ⟨F, ρ, n, sl, wf, q⟩ := h
  refine ⟨F, ρ, n, sl, wf, q.bnd.imp fun x ρ1 q => ?_⟩
  intro vx F1 H1 n1 rx sl1 wf1 ex1
  refine ⟨F1, ρ1, n1, sl1, wf1, q.bnd.step wf ex1 fun y ρ2 q => ?_⟩
  intro vy F2 H2 n2 ry sl2 wf2 ex2
  have ex := ex1.trans wf ex2
  exact step F2 H2 n2 ρ2 x y vx vy (rx.ext wf1 ex2) ry sl2 wf2 (q.step wf ex fun z ρ3 q => q.step wf ex)
end
end KR

set_option Elab.async false
set_option linter.all false
set_option maxRecDepth 100000
set_option maxHeartbeats 2000000
/-! Rules: operators, comparisons, places, lengths. -/
namespace KR
open PySem L2 PyProof.Rows

section
variable {K : PySem.W.Frag} {cl : Nat → Addr} {W : WX} {F F' : Addr → Prop} {H H' : Hp} {n n' m : Addr → Nat} {σ : L2.St} {Q : VK} {ρ : Env}
/-- a value as it stands -/
theorem pD.here {x : D} {v : V} (q : pD K cl F H n σ Q x ρ) (r : R K cl F H x v) (sl : SL K cl F H ρ σ n) (wf : WF F H n) : Q v H := q v F H n r sl wf Ext.refl
/-- a new object, frozen -/
theorem pD.new {x : D} {p : Addr} {o : HO} (q : pD K cl F H n σ Q x ρ) (hp : H p = none) (sl : SL K cl F H ρ σ n) (wf : WF F H n)
    (r : R K cl (fun a => F a ∨ a = p) (upd H p o) x (.ref p)) : Q (.ref p) (upd H p o) := by
  obtain ⟨w2, e2⟩ := new_frz (o := o) wf hp
  refine q _ _ _ n r (sl.ext wf (fun a h => .inl h) fun a h => upd_ne fun e => h (by rw [e]; exact hp)) w2 e2
/-- data behind a new object -/
theorem RL.new {xs : List D} {vs : List V} {p : Addr} {o : HO} (r : RL K cl F H xs vs) (hp : H p = none) (wf : WF F H n) : RL K cl (fun a => F a ∨ a = p) (upd H p o) xs vs :=
  RL.mono (fun a h => .inl h) (fun a h => upd_ne fun e => wf.hf a h (by rw [e]; exact hp)) xs r
theorem R.new {x : D} {v : V} {p : Addr} {o : HO} (r : R K cl F H x v) (hp : H p = none) (wf : WF F H n) : R K cl (fun a => F a ∨ a = p) (upd H p o) x v :=
  R.mono (fun a h => .inl h) (fun a h => upd_ne fun e => wf.hf a h (by rw [e]; exact hp)) x r
theorem RO.new {x : RV} {v : V} {p : Addr} {o : HO} {k : Addr → Nat} (r : RO K cl F H x v k) (hp : H p = none) (wf : WF F H n) (hk : ∀ a, k a ≠ 0 → H a ≠ none) : RO K cl (fun a => F a ∨ a = p) (upd H p o) x v k :=
  RO.mono (fun a h => .inl h) (fun a h => upd_ne fun e => wf.hf a h (by rw [e]; exact hp)) x (fun a h => upd_ne fun e => hk a h (by rw [e]; exact hp)) r
/-- a new tuple, a new list -/
theorem pD.tup {xs : List D} {vs : List V} {p : Addr} (q : pD K cl F H n σ Q (.tup xs) ρ) (hp : H p = none) (sl : SL K cl F H ρ σ n) (wf : WF F H n) (r : RL K cl F H xs vs) : Q (.ref p) (upd H p (.tup vs)) :=
  q.new hp sl wf ⟨p, vs, rfl, .inl ⟨.inr rfl, .inl upd_same⟩, r.new hp wf⟩
theorem pD.lst {xs : List D} {vs : List V} {p : Addr} (q : pD K cl F H n σ Q (.lst xs) ρ) (hp : H p = none) (sl : SL K cl F H ρ σ n) (wf : WF F H n) (r : RL K cl F H xs vs) : Q (.ref p) (upd H p (.lst vs)) :=
  q.new hp sl wf ⟨p, vs, rfl, .inr rfl, upd_same, r.new hp wf⟩
end

/-- an operation by values, as a function over data -/
def opR (K : PySem.W.Frag) (cl : Nat → Addr) (g : D → D → Option D) : R2 := fun vx vy H Q => ∃ (F : Addr → Prop) (n : Addr → Nat) (σ : L2.St) (ρ : Env) (x y z : D),
  R K cl F H x vx ∧ R K cl F H y vy ∧ SL K cl F H ρ σ n ∧ WF F H n ∧ g x y = some z ∧ pD K cl F H n σ Q z ρ
def bin (g : D → D → Option D) (a b : M D) : M D := bnd a fun x => bnd b fun y => lift (g x y)
def opR1 (K : PySem.W.Frag) (cl : Nat → Addr) (g : D → Option D) : V → Hp → VK → Prop := fun vx H Q => ∃ (F : Addr → Prop) (n : Addr → Nat) (σ : L2.St) (ρ : Env) (x z : D),
  R K cl F H x vx ∧ SL K cl F H ρ σ n ∧ WF F H n ∧ g x = some z ∧ pD K cl F H n σ Q z ρ
def una (g : D → Option D) (a : M D) : M D := bnd a fun x => lift (g x)
/-- a built-in by values -/
def opRL (K : PySem.W.Frag) (cl : Nat → Addr) (g : List D → Option D) : List V → Hp → VK → Prop := fun vs H Q => ∃ (F : Addr → Prop) (n : Addr → Nat) (σ : L2.St) (ρ : Env) (xs : List D) (z : D),
  RL K cl F H xs vs ∧ SL K cl F H ρ σ n ∧ WF F H n ∧ g xs = some z ∧ pD K cl F H n σ Q z ρ
def cal (g : List D → Option D) (a : M (List D)) : M D := bnd a fun x => lift (g x)
theorem Mt_lift {α : Type} {K : PySem.W.Frag} {cl : Nat → Addr} {W : WX} {F : Addr → Prop} {H : Hp} {n : Addr → Nat} {σ : L2.St} {ρ : Env} {o : Option α} {P : α → Env → Prop} (h : Mt K cl W F H n σ (lift o ρ) P) : ∃ z, o = some z ∧ P z ρ := by
  unfold lift at h
  cases o with
  | none => exact h.elim
  | some z => exact ⟨z, rfl, h⟩

section
variable {C : Cf} {a b : Expr} {da db : M D} {pos : Pos}
theorem e_bin {op : Operator} {g : D → D → Option D} (ho : OpR C.X (binaryOp op) (opR C.X.K C.cl g)) (ha : DE C a da) (hb : DE C b db) : DE C (.BinOp a op b pos) (bin g da db) := by
  refine PE.imp (pe_op ho ha hb) fun σ H Q h => two h fun F H n ρ x y vx vy rx ry sl wf q => ?_
  obtain ⟨z, e, q⟩ := Mt_lift q
  exact ⟨F, n, σ, ρ, x, y, z, rx, ry, sl, wf, e, q⟩
theorem e_cmp {op : CmpOp} {g : D → D → Option D} (ho : OpR C.X (compareOp op) (opR C.X.K C.cl g)) (ha : DE C a da) (hb : DE C b db) (hm : behindInMarks op b = false) : DE C (.Compare a [op] [b] pos) (bin g da db) := by
  refine PE.imp (pe_cmpR ho ha hb hm) fun σ H Q h => two h fun F H n ρ x y vx vy rx ry sl wf q => ?_
  obtain ⟨z, e, q⟩ := Mt_lift q
  exact ⟨F, n, σ, ρ, x, y, z, rx, ry, sl, wf, e, q⟩
theorem e_un {op : UnaryOp} {g : D → Option D} (ho : UnR C.X (unaryOp op) (opR1 C.X.K C.cl g)) (ha : DE C a da) : DE C (.UnaryOp op a pos) (una g da) := by
  refine PE.imp (pe_un ho ha) fun σ H Q ⟨F, ρ, n, sl, wf, q⟩ => ⟨F, ρ, n, sl, wf, q.bnd.imp fun x ρ1 q => ?_⟩
  intro vx F1 H1 n1 rx sl1 wf1 ex1
  obtain ⟨z, e, q⟩ := Mt_lift q
  exact ⟨F1, n1, σ, ρ1, x, z, rx, sl1, wf1, e, q.step wf ex1⟩
/-- a comparison as a test -/
def binT (g : D → D → Option D) (a b : M D) : M Bool := bnd (bin g a b) fun z => lift (match z with | .bl k => some k | _ => none)
theorem R_bl {K : PySem.W.Frag} {cl : Nat → Addr} {F : Addr → Prop} {H : Hp} {k : Bool} {v : V} (h : R K cl F H (.bl k) v) : v = .bl k := h
def asB : D → Option Bool
  | .bl k => some k
  | _ => none
def tst (d : M D) : M Bool := bnd d fun z => lift (asB z)
theorem t_of {X : Cx} {K : PySem.W.Frag} {cl : Nat → Addr} {W : WX} {d : M D} {σ : L2.St} {H : Hp} {Q : Bool → Hp → Prop} (h : tT K cl W (tst d) σ H Q) : tE K cl W d σ H fun x H1 => ∃ k, x = .bl k ∧ Q k H1 := by
  obtain ⟨F, ρ, n, sl, wf, q⟩ := h
  refine ⟨F, ρ, n, sl, wf, q.bnd.imp fun x ρ1 q => ?_⟩
  obtain ⟨k, e, q⟩ := Mt_lift q
  intro v F1 H1 n1 rx sl1 wf1 ex1
  cases x with
  | bl b =>
    cases e
    exact ⟨_, rx, q F1 H1 n1 sl1 wf1 ex1⟩
  | _ => cases e
theorem t_cmp {op : CmpOp} {g : D → D → Option D} (ho : OpR C.X (compareOp op) (opR C.X.K C.cl g)) (ha : DE C a da) (hb : DE C b db) (hm : behindInMarks op b = false) : DT C (.Compare a [op] [b] pos) (tst (bin g da db)) := by
  refine PT.imp (pt_cmpR ho ha hb hm) fun σ H Q h => two (t_of (X := C.X) h) fun F H n ρ x y vx vy rx ry sl wf q => ?_
  obtain ⟨z, e, q⟩ := Mt_lift q
  exact ⟨F, n, σ, ρ, x, y, z, rx, ry, sl, wf, e, q⟩
/-- an expression whose value is a bool, as a test -/
theorem t_val (h : DE C a da) (he : ∀ whole, isTrue a C.X.env whole = (do let v ← whole; standAt a.pos; holding [v] (truthy v))) : DT C a (tst da) :=
  PT.imp (pt_val h he) fun σ H Q h => t_of (X := C.X) h

/-! ### truth -/
def tru : D → Option Bool
  | .non => some false
  | .bl b => some b
  | .int i => some (i != 0)
  | .str x => if x.length ≤ sizeLine then some ((x.length : Int) != 0) else none
  | .tup xs => some (!xs.isEmpty)
  | .lst xs => some (!xs.isEmpty)
  | .lsr xs => some (!xs.isEmpty)
  | .dct ks _ => some (!ks.isEmpty)
  | .ins _ _ _ => none
theorem RL.emp {K : PySem.W.Frag} {cl : Nat → Addr} {F : Addr → Prop} {H : Hp} {xs : List D} {vs : List V} (r : RL K cl F H xs vs) : vs.isEmpty = xs.isEmpty := by
  cases xs with
  | nil => rw [show vs = [] from r]; rfl
  | cons d ds => obtain ⟨v, us, e, _⟩ := r; rw [e]; rfl
theorem tru_of {K : PySem.W.Frag} {cl : Nat → Addr} {F : Addr → Prop} {H : Hp} {x : D} {v : V} {k : Bool} (r : R K cl F H x v) (e : tru x = some k) : TruV K v H k := by
  cases x with
  | non => cases r; cases e; rfl
  | bl b => cases r; cases e; rfl
  | int i => cases r; cases e; rfl
  | str z =>
    cases r
    have e : (if z.length ≤ sizeLine then some ((z.length : Int) != 0) else none) = some k := e
    by_cases h : z.length ≤ sizeLine
    · rw [if_pos h] at e
      cases e
      exact ⟨h, rfl⟩
    · rw [if_neg h] at e
      cases e
  | tup xs =>
    obtain ⟨a, vs, rfl, ht, rl⟩ := r
    cases e
    exact .inr (.inl ⟨vs, ht.seq, by rw [rl.emp]⟩)
  | lst xs =>
    obtain ⟨a, vs, rfl, _, ht, rl⟩ := r
    cases e
    exact .inl ⟨vs, SqL.of ht, by rw [rl.emp]⟩
  | lsr xs =>
    obtain ⟨a, vs, rfl, ht, rl⟩ := r
    cases e
    exact .inl ⟨vs, ht.seq, by rw [rl.emp]⟩
  | dct ks ds =>
    obtain ⟨a, kvs, rfl, _, h, hk, rl⟩ := r
    cases e
    refine .inr (.inr ⟨kvs, h, ?_⟩)
    rw [hk]
    cases kvs <;> rfl
  | ins c ns fs => cases e
def tstV (d : M D) : M Bool := bnd d fun z => lift (tru z)
theorem t_tru (h : DE C a da) (he : ∀ whole, isTrue a C.X.env whole = (do let v ← whole; standAt a.pos; holding [v] (truthy v))) : DT C a (tstV da) := by
  refine PT.imp (pt_truth h he) fun σ H Q ⟨F, ρ, n, sl, wf, q⟩ => ⟨F, ρ, n, sl, wf, q.bnd.imp fun x ρ1 q => ?_⟩
  obtain ⟨k, e, q⟩ := Mt_lift q
  intro v F1 H1 n1 rx sl1 wf1 ex1
  exact ⟨k, tru_of rx e, q F1 H1 n1 sl1 wf1 ex1⟩
def tnot (d : M Bool) : M Bool := bnd d fun b => ret (!b)
theorem t_not {d : M Bool} (h : DT C a d) : DT C (.UnaryOp .Not a pos) (tnot d) := by
  refine PT.imp (pt_not h) fun σ H Q ⟨F, ρ, n, sl, wf, q⟩ => ⟨F, ρ, n, sl, wf, q.bnd.imp fun x ρ1 q => ?_⟩
  intro F1 H1 n1 sl1 wf1 ex1
  exact q F1 H1 n1 sl1 wf1 ex1
/-- chains of and, or as tests -/
def DW (C : Cf) (e : Expr) (d : M Bool) : Prop := PW C.X e (tT C.X.K C.cl C.W d)
def tand (a b : M Bool) : M Bool := bnd a fun x => if x = true then b else ret false
def tor (a b : M Bool) : M Bool := bnd a fun x => if x = true then ret true else b
theorem PW.imp {X : Cx} {e : Expr} {t t' : TT} (h : PW X e t) (i : ∀ σ H Q, t' σ H Q → t σ H Q) : PW X e t' := ⟨fun w pins s σ H Q I q => h.run w pins s σ H Q I (i σ H Q q)⟩
theorem w_and1 {d : M Bool} (h : DT C a d) : DW C (.BoolOp .And [a] pos) d := pw_and1 h
theorem w_or1 {d : M Bool} (h : DT C a d) : DW C (.BoolOp .Or [a] pos) d := pw_or1 h
theorem w_and {d e : M Bool} {rest : List Expr} (h : DT C a d) (h2 : DW C (.BoolOp .And (b :: rest) pos) e) : DW C (.BoolOp .And (a :: b :: rest) pos) (tand d e) := by
  refine PW.imp (pw_and h h2) fun σ H Q ⟨F, ρ, n, sl, wf, q⟩ => ⟨F, ρ, n, sl, wf, q.bnd.imp fun x ρ1 q => ?_⟩
  intro F1 H1 n1 sl1 wf1 ex1
  cases x with
  | true => exact ⟨F1, ρ1, n1, sl1, wf1, Mt.step wf ex1 q fun a ρ' q => q.step wf ex1⟩
  | false => exact q F1 H1 n1 sl1 wf1 ex1
theorem w_or {d e : M Bool} {rest : List Expr} (h : DT C a d) (h2 : DW C (.BoolOp .Or (b :: rest) pos) e) : DW C (.BoolOp .Or (a :: b :: rest) pos) (tor d e) := by
  refine PW.imp (pw_or h h2) fun σ H Q ⟨F, ρ, n, sl, wf, q⟩ => ⟨F, ρ, n, sl, wf, q.bnd.imp fun x ρ1 q => ?_⟩
  intro F1 H1 n1 sl1 wf1 ex1
  cases x with
  | false => exact ⟨F1, ρ1, n1, sl1, wf1, Mt.step wf ex1 q fun a ρ' q => q.step wf ex1⟩
  | true => exact q F1 H1 n1 sl1 wf1 ex1
theorem t_bool {d : M Bool} (h : DW C a d) : DT C a d := PW.pt h
/-- as values: bools alone -/
def vand (a b : M D) : M D := bnd a fun x => bnd (lift (asB x)) fun k => if k = true then b else ret (.bl false)
def vor (a b : M D) : M D := bnd a fun x => bnd (lift (asB x)) fun k => if k = true then ret (.bl true) else b
theorem e_one {op} (h : DE C a da) : DE C (.BoolOp op [a] pos) da := pe_one h
theorem asB_R {K : PySem.W.Frag} {cl : Nat → Addr} {F : Addr → Prop} {H : Hp} {x : D} {v : V} {k : Bool} (r : R K cl F H x v) (e : asB x = some k) : v = .bl k := by
  cases x with
  | bl b => cases e; exact r
  | _ => cases e
theorem e_and {rest : List Expr} (h : DE C a da) (h2 : DE C (.BoolOp .And (b :: rest) pos) db) : DE C (.BoolOp .And (a :: b :: rest) pos) (vand da db) := by
  refine PE.imp (pe_and h h2) fun σ H Q ⟨F, ρ, n, sl, wf, q⟩ => ⟨F, ρ, n, sl, wf, q.bnd.imp fun x ρ1 q => ?_⟩
  obtain ⟨k, e, q⟩ := Mt_lift q.bnd
  intro v F1 H1 n1 rx sl1 wf1 ex1
  refine ⟨k, asB_R rx e, ?_⟩
  cases k with
  | true => exact ⟨F1, ρ1, n1, sl1, wf1, Mt.step wf ex1 q fun a ρ' q => q.step wf ex1⟩
  | false => exact q _ F1 H1 n1 rfl sl1 wf1 ex1
theorem e_or {rest : List Expr} (h : DE C a da) (h2 : DE C (.BoolOp .Or (b :: rest) pos) db) : DE C (.BoolOp .Or (a :: b :: rest) pos) (vor da db) := by
  refine PE.imp (pe_or h h2) fun σ H Q ⟨F, ρ, n, sl, wf, q⟩ => ⟨F, ρ, n, sl, wf, q.bnd.imp fun x ρ1 q => ?_⟩
  obtain ⟨k, e, q⟩ := Mt_lift q.bnd
  intro v F1 H1 n1 rx sl1 wf1 ex1
  refine ⟨k, asB_R rx e, ?_⟩
  cases k with
  | false => exact ⟨F1, ρ1, n1, sl1, wf1, Mt.step wf ex1 q fun a ρ' q => q.step wf ex1⟩
  | true => exact q _ F1 H1 n1 rfl sl1 wf1 ex1
def gnot : D → Option D
  | .bl k => some (.bl (!k))
  | _ => none
theorem e_not (h : DE C a da) : DE C (.UnaryOp .Not a pos) (una gnot da) := by
  refine PE.imp (pe_not h) fun σ H Q ⟨F, ρ, n, sl, wf, q⟩ => ⟨F, ρ, n, sl, wf, q.bnd.imp fun x ρ1 q => ?_⟩
  obtain ⟨z, e, q⟩ := Mt_lift q
  intro v F1 H1 n1 rx sl1 wf1 ex1
  cases x with
  | bl k =>
    cases e
    exact ⟨k, rx, q _ F1 H1 n1 rfl sl1 wf1 ex1⟩
  | _ => cases e
/-- not x by truth -/
theorem e_notT {d : M Bool} (h : PE C.X (.UnaryOp .Not a pos) (fun σ H Q => tT C.X.K C.cl C.W d σ H fun b H1 => Q (.bl (!b)) H1)) : DE C (.UnaryOp .Not a pos) (bnd d fun b => ret (.bl (!b))) := by
  refine PE.imp h fun σ H Q ⟨F, ρ, n, sl, wf, q⟩ => ⟨F, ρ, n, sl, wf, q.bnd.imp fun x ρ1 q => ?_⟩
  intro F1 H1 n1 sl1 wf1 ex1
  exact q _ F1 H1 n1 rfl sl1 wf1 ex1
/-- a if t else b -/
def ite' {α : Type} (t : M Bool) (a b : M α) : M α := bnd t fun k => if k = true then a else b
theorem e_if {c : Expr} {t : M Bool} (hc : DT C c t) (ha : DE C a da) (hb : DE C b db) : DE C (.IfExp c a b pos) (ite' t da db) := by
  refine PE.imp (pe_ifExp hc ha hb) fun σ H Q ⟨F, ρ, n, sl, wf, q⟩ => ⟨F, ρ, n, sl, wf, q.bnd.imp fun k ρ1 q => ?_⟩
  intro F1 H1 n1 sl1 wf1 ex1
  cases k with
  | true => exact ⟨F1, ρ1, n1, sl1, wf1, Mt.step wf ex1 q fun a ρ' q => q.step wf ex1⟩
  | false => exact ⟨F1, ρ1, n1, sl1, wf1, Mt.step wf ex1 q fun a ρ' q => q.step wf ex1⟩
theorem o_if {c : Expr} {t : M Bool} {oa ob : M RV} (hc : DT C c t) (ha : DO C a oa) (hb : DO C b ob) : DO C (.IfExp c a b pos) (ite' t oa ob) := by
  refine PE.imp (pe_ifExp hc ha hb) fun σ H Q ⟨F, ρ, n, sl, wf, q⟩ => ⟨F, ρ, n, sl, wf, q.bnd.imp fun k ρ1 q => ?_⟩
  intro F1 H1 n1 sl1 wf1 ex1
  cases k with
  | true => exact ⟨F1, ρ1, n1, sl1, wf1, Mt.step wf ex1 q fun a ρ' q => q.step wf ex1⟩
  | false => exact ⟨F1, ρ1, n1, sl1, wf1, Mt.step wf ex1 q fun a ρ' q => q.step wf ex1⟩

/-! ### x is None -/
def gisN : D → Option D
  | .non => some (.bl true)
  | _ => some (.bl false)
def gnotN : D → Option D
  | .non => some (.bl false)
  | _ => some (.bl true)
theorem R_non {K : PySem.W.Frag} {cl : Nat → Addr} {F : Addr → Prop} {H : Hp} {x : D} {v : V} (r : R K cl F H x v) : gisN x = some (.bl (decide (v = .non))) ∧ gnotN x = some (.bl (!decide (v = .non))) := by
  cases x with
  | non => cases r; exact ⟨rfl, rfl⟩
  | bl b => cases r; exact ⟨rfl, rfl⟩
  | int i => cases r; exact ⟨rfl, rfl⟩
  | str z => cases r; exact ⟨rfl, rfl⟩
  | tup xs => obtain ⟨a, vs, rfl, _⟩ := r; exact ⟨rfl, rfl⟩
  | lst xs => obtain ⟨a, vs, rfl, _⟩ := r; exact ⟨rfl, rfl⟩
  | lsr xs => obtain ⟨a, vs, rfl, _⟩ := r; exact ⟨rfl, rfl⟩
  | dct ks ds => obtain ⟨a, kvs, rfl, _⟩ := r; exact ⟨rfl, rfl⟩
  | ins c ns fs => obtain ⟨a, dx, vs, rfl, _⟩ := r; exact ⟨rfl, rfl⟩
theorem i_isN {σ : L2.St} {H : Hp} {Q : VK} (h : tE C.X.K C.cl C.W (una gisN da) σ H Q) : tIsN (tE C.X.K C.cl C.W da) σ H Q := by
  obtain ⟨F, ρ, n, sl, wf, q⟩ := h
  refine ⟨F, ρ, n, sl, wf, q.bnd.imp fun x ρ1 q => ?_⟩
  obtain ⟨z, e, q⟩ := Mt_lift q
  intro v F1 H1 n1 rx sl1 wf1 ex1
  rw [(R_non rx).1] at e
  cases e
  exact q _ F1 H1 n1 rfl sl1 wf1 ex1
theorem i_notN {σ : L2.St} {H : Hp} {Q : VK} (h : tE C.X.K C.cl C.W (una gnotN da) σ H Q) : tNotN (tE C.X.K C.cl C.W da) σ H Q := by
  obtain ⟨F, ρ, n, sl, wf, q⟩ := h
  refine ⟨F, ρ, n, sl, wf, q.bnd.imp fun x ρ1 q => ?_⟩
  obtain ⟨z, e, q⟩ := Mt_lift q
  intro v F1 H1 n1 rx sl1 wf1 ex1
  rw [(R_non rx).2] at e
  cases e
  exact q _ F1 H1 n1 rfl sl1 wf1 ex1
theorem e_isN {j pos'} (ha : DE C a da) : DE C (.Compare a [.Is] [.Constant .none j pos'] pos) (una gisN da) := PE.imp (pe_cmp (pc_isN ha)) fun σ H Q h => i_isN h
theorem e_notN {j pos'} (ha : DE C a da) : DE C (.Compare a [.IsNot] [.Constant .none j pos'] pos) (una gnotN da) := PE.imp (pe_cmp (pc_notN ha)) fun σ H Q h => i_notN h
theorem t_isN {j pos'} (ha : DE C a da) : DT C (.Compare a [.Is] [.Constant .none j pos'] pos) (tst (una gisN da)) := PT.imp (pt_cmp (pc_isN ha)) fun σ H Q h => i_isN (t_of (X := C.X) h)
theorem t_notN {j pos'} (ha : DE C a da) : DT C (.Compare a [.IsNot] [.Constant .none j pos'] pos) (tst (una gnotN da)) := PT.imp (pt_cmp (pc_notN ha)) fun σ H Q h => i_notN (t_of (X := C.X) h)
end
end KR

set_option Elab.async false
set_option linter.all false
set_option maxRecDepth 100000
set_option maxHeartbeats 2000000
/-! Rules: what the operators do with data. -/
namespace KR
open PySem L2 PyProof.Rows

/-! ### operators -/
def gadd : D → D → Option D
  | .int a, .int b => some (.int (a + b))
  | .str a, .str b => if a.length + b.length ≤ sizeLine then some (.str (a ++ b)) else none
  | .tup a, .tup b => if a.length + b.length ≤ sizeLine then some (.tup (a ++ b)) else none
  | .lst a, .lst b => if a.length + b.length ≤ sizeLine then some (.lst (a ++ b)) else none
  | _, _ => none
def gsub : D → D → Option D
  | .int a, .int b => some (.int (a - b))
  | _, _ => none
def gmul : D → D → Option D
  | .int a, .int b => if a.natAbs.log2 + b.natAbs.log2 < 1000000 ∨ (-(2 ^ 64) < a ∧ a < 2 ^ 64) ∨ (-(2 ^ 64) < b ∧ b < 2 ^ 64) then some (.int (a * b)) else none
  | .lst a, .int b => if b < 2 ^ 62 ∧ -(2 ^ 62) < b ∧ a.length * b.toNat ≤ sizeLine then some (.lst (List.replicate b.toNat a).flatten) else none
  | _, _ => none
def gdiv : D → D → Option D
  | .int a, .int b => if 0 < b ∧ b.natAbs.log2 < 9000 then some (.int (a / b)) else none
  | _, _ => none
def gmod : D → D → Option D
  | .int a, .int b => if 0 < b then some (.int (a % b)) else none
  | _, _ => none
def gpow : D → D → Option D
  | .int a, .int b => if 0 ≤ b ∧ b ≤ 1000000 ∧ a.natAbs < 2 ^ 64 then some (.int (a ^ b.toNat)) else none
  | _, _ => none
def gand : D → D → Option D
  | .int a, .int b => some (.int (Builtin.bitAnd a b))
  | _, _ => none
def gneg : D → Option D
  | .int a => some (.int (-a))
  | _ => none
def gI (p : Int → Int → Bool) : D → D → Option D
  | .int a, .int b => some (.bl (p a b))
  | _, _ => none
/-! data that == speaks of -/
mutual
def D.py : D → Option PyData
  | .non => some .none
  | .bl b => some (.bool b)
  | .int i => some (.int i)
  | .str x => some (.str x)
  | .tup xs => (D.pys xs).map .tuple
  | .lst xs => (D.pys xs).map .list
  | .lsr xs => (D.pys xs).map .list
  | .dct _ _ => none
  | .ins _ _ _ => none
def D.pys : List D → Option (List PyData)
  | [] => some []
  | x :: xs => match D.py x, D.pys xs with
    | some p, some ps => some (p :: ps)
    | _, _ => none
end
def deqD (x y : D) : Option Bool :=
  match D.py x, D.py y with
  | some p, some q => if SeqAt.shaped p = true ∧ SeqAt.shaped q = true then some (PyData.eqv p q) else none
  | _, _ => none
def deq : D → D → Option Bool
  | .int a, .int b => some (decide (a = b))
  | .str a, .str b => some (decide (a = b))
  | .bl a, .bl b => some (decide (a = b))
  | .non, .non => some true
  | .non, .int _ => some false
  | .int _, .non => some false
  | .non, .str _ => some false
  | .str _, .non => some false
  | .non, .bl _ => some false
  | .bl _, .non => some false
  | .int _, .str _ => some false
  | .str _, .int _ => some false
  | x, y => deqD x y
def geq (x y : D) : Option D := (deq x y).map .bl
def gne (x y : D) : Option D := (deq x y).map fun b => .bl (!b)

mutual
theorem R.dp {K : PySem.W.Frag} {cl : Nat → Addr} {F : Addr → Prop} {H : Hp} : ∀ {x : D} {v : V} {p : PyData}, R K cl F H x v → D.py x = some p → Dp K H v p
  | .non, _, _, r, e => by cases r; cases e; exact .non
  | .bl b, _, _, r, e => by cases r; cases e; exact .bl b
  | .int b, _, _, r, e => by cases r; cases e; exact .int b
  | .str b, _, _, r, e => by cases r; cases e; exact .str b
  | .tup xs, _, _, ⟨a, vs, ev, ht, rl⟩, e => by
    subst ev
    have e : (D.pys xs).map PyData.tuple = some _ := e
    cases h : D.pys xs with
    | none => rw [h] at e; cases e
    | some ps => rw [h] at e; cases e; exact .tup ht.seq (RL.dp rl h)
  | .lst xs, _, _, ⟨a, vs, ev, _, ht, rl⟩, e => by
    subst ev
    have e : (D.pys xs).map PyData.list = some _ := e
    cases h : D.pys xs with
    | none => rw [h] at e; cases e
    | some ps => rw [h] at e; cases e; exact .lst (SqL.of ht) (RL.dp rl h)
  | .lsr xs, _, _, ⟨a, vs, ev, ht, rl⟩, e => by
    subst ev
    have e : (D.pys xs).map PyData.list = some _ := e
    cases h : D.pys xs with
    | none => rw [h] at e; cases e
    | some ps => rw [h] at e; cases e; exact .lst ht.seq (RL.dp rl h)
  | .dct _ _, _, _, _, e => by cases e
  | .ins _ _ _, _, _, _, e => by cases e
theorem RL.dp {K : PySem.W.Frag} {cl : Nat → Addr} {F : Addr → Prop} {H : Hp} : ∀ {xs : List D} {vs : List V} {ps : List PyData}, RL K cl F H xs vs → D.pys xs = some ps → DpAll K H vs ps
  | [], _, _, r, e => by rw [show _ = [] from r]; cases e; exact .nil
  | x :: xs, _, _, ⟨v, us, ev, r, rs⟩, e => by
    subst ev
    unfold D.pys at e
    cases h1 : D.py x with
    | none => rw [h1] at e; cases e
    | some p =>
      cases h2 : D.pys xs with
      | none => rw [h1, h2] at e; cases e
      | some ps => rw [h1, h2] at e; cases e; exact .cons (R.dp r h1) (RL.dp rs h2)
end

section
variable {X : Cx} {cl : Nat → Addr}
theorem d_add : OpR X (binaryOp .Add) (opR X.K cl gadd) := by
  intro pins s σ' H vx vy v u Q I rx ry ⟨F, n, σ, ρ, x, y, z, hx, hy, sl, wf, e, q⟩
  cases x with
  | int i =>
    cases y with
    | int j => cases hx; cases hy; cases e; exact op_add pins s σ' H _ _ v u Q I rx ry ⟨i, j, rfl, rfl, q.here rfl sl wf⟩
    | _ => cases e
  | str i =>
    cases y with
    | str j =>
      cases hx; cases hy
      unfold gadd at e
      dsimp only at e
      split at e
      · rename_i hz
        cases e; exact op_add_str pins s σ' H _ _ v u Q I rx ry ⟨i, j, rfl, rfl, hz, q.here rfl sl wf⟩
      · cases e
    | _ => cases e
  | tup xs =>
    cases y with
    | tup ys =>
      obtain ⟨a, vs, ea, ha, ra⟩ := hx
      obtain ⟨b, us, eb, hb, rb⟩ := hy
      unfold gadd at e
      dsimp only at e
      split at e
      · rename_i hz
        cases e
        have l1 := ra.length
        have l2 := rb.length
        refine op_catA pins s σ' H _ _ v u Q I rx ry ⟨a, b, vs, us, ea, eb, ha.seq, hb.seq, by omega, fun z => ?_, fun z1 z2 => ?_, fun z1 z2 p hp => ?_⟩
        · subst z
          have : xs = [] := List.eq_nil_of_length_eq_zero l1.symm
          subst this
          exact q.here ⟨b, us, rfl, hb, rb⟩ sl wf
        · subst z2
          have : ys = [] := List.eq_nil_of_length_eq_zero l2.symm
          subst this
          rw [List.append_nil] at q
          exact q.here ⟨a, vs, rfl, ha, ra⟩ sl wf
        · exact q.tup hp sl wf (ra.append rb)
      · cases e
    | _ => cases e
  | lst xs =>
    cases y with
    | lst ys =>
      obtain ⟨a, vs, ea, _, ha, ra⟩ := hx
      obtain ⟨b, us, eb, _, hb, rb⟩ := hy
      unfold gadd at e
      dsimp only at e
      split at e
      · rename_i hz
        cases e
        have l1 := ra.length
        have l2 := rb.length
        exact op_cat pins s σ' H _ _ v u Q I rx ry ⟨a, b, vs, us, ea, eb, ha, hb, by omega, fun p hp => q.lst hp sl wf (ra.append rb)⟩
      · cases e
    | _ => cases e
  | _ => cases e
theorem d_int {f : Value → Value → Sem Value} {Cd : Int → Int → Prop} {r : Int → Int → Int} {g : D → D → Option D} (h : OpR X f (rI Cd fun i j => .int (r i j)))
    (hg : ∀ x y z, g x y = some z → ∃ i j, x = .int i ∧ y = .int j ∧ Cd i j ∧ z = .int (r i j)) : OpR X f (opR X.K cl g) := by
  intro pins s σ' H vx vy v u Q I rx ry ⟨F, n, σ, ρ, x, y, z, hx, hy, sl, wf, e, q⟩
  obtain ⟨i, j, rfl, rfl, hc, rfl⟩ := hg x y z e
  cases hx; cases hy
  exact h pins s σ' H _ _ v u Q I rx ry ⟨i, j, rfl, rfl, hc, q.here rfl sl wf⟩
theorem d_sub : OpR X (binaryOp .Sub) (opR X.K cl gsub) := by
  intro pins s σ' H vx vy v u Q I rx ry ⟨F, n, σ, ρ, x, y, z, hx, hy, sl, wf, e, q⟩
  cases x with
  | int i =>
    cases y with
    | int j => cases hx; cases hy; cases e; exact op_sub pins s σ' H _ _ v u Q I rx ry ⟨i, j, rfl, rfl, q.here rfl sl wf⟩
    | _ => cases e
  | _ => cases e
theorem d_mul : OpR X (binaryOp .Mult) (opR X.K cl gmul) := by
  intro pins s σ' H vx vy v u Q I rx ry ⟨F, n, σ, ρ, x, y, z, hx, hy, sl, wf, e, q⟩
  cases x with
  | int i =>
    cases y with
    | int j =>
      cases hx; cases hy
      unfold gmul at e
      dsimp only at e
      split at e
      · rename_i hz
        cases e
        rcases hz with hz | hz
        · exact op_mulW pins s σ' H _ _ v u Q I rx ry ⟨i, j, rfl, rfl, hz, q.here rfl sl wf⟩
        · exact L2.op_mul pins s σ' H _ _ v u Q I rx ry ⟨i, j, rfl, rfl, hz, q.here rfl sl wf⟩
      · cases e
    | _ => cases e
  | lst xs =>
    cases y with
    | int j =>
      obtain ⟨a, vs, ea, _, ha, ra⟩ := hx
      cases hy
      unfold gmul at e
      dsimp only at e
      split at e
      · rename_i hz
        obtain ⟨h1, h2, h3⟩ := hz
        cases e
        have l1 := ra.length
        have rep : ∀ k : Nat, RL X.K cl F H (List.replicate k xs).flatten (List.replicate k vs).flatten := fun k => by
          induction k with
          | zero => exact rfl
          | succ k ih => simp only [List.replicate_succ, List.flatten_cons]; exact ra.append ih
        exact op_rep pins s σ' H _ _ v u Q I rx ry ⟨a, j, vs, ea, rfl, ha, by omega, by omega, by rw [l1]; exact h3, fun p hp => q.lst hp sl wf (rep _)⟩
      · cases e
    | _ => cases e
  | _ => cases e
theorem d_div : OpR X (binaryOp .FloorDiv) (opR X.K cl gdiv) := d_int op_fdivW fun x y z e => by
  cases x with
  | int i =>
    cases y with
    | int j =>
      unfold gdiv at e
      dsimp only at e
      split at e
      · rename_i hz
        cases e; exact ⟨i, j, rfl, rfl, hz, rfl⟩
      · cases e
    | _ => cases e
  | _ => cases e
theorem d_mod : OpR X (binaryOp .Mod) (opR X.K cl gmod) := d_int op_mod fun x y z e => by
  cases x with
  | int i =>
    cases y with
    | int j =>
      unfold gmod at e
      dsimp only at e
      split at e
      · rename_i hz
        cases e; exact ⟨i, j, rfl, rfl, hz, rfl⟩
      · cases e
    | _ => cases e
  | _ => cases e
theorem d_pow : OpR X (binaryOp .Pow) (opR X.K cl gpow) := d_int op_pow fun x y z e => by
  cases x with
  | int i =>
    cases y with
    | int j =>
      unfold gpow at e
      dsimp only at e
      split at e
      · rename_i hz
        cases e; exact ⟨i, j, rfl, rfl, hz, rfl⟩
      · cases e
    | _ => cases e
  | _ => cases e
theorem d_and : OpR X (binaryOp .BitAnd) (opR X.K cl gand) := by
  intro pins s σ' H vx vy v u Q I rx ry ⟨F, n, σ, ρ, x, y, z, hx, hy, sl, wf, e, q⟩
  cases x with
  | int i =>
    cases y with
    | int j => cases hx; cases hy; cases e; exact op_and pins s σ' H _ _ v u Q I rx ry ⟨i, j, rfl, rfl, q.here rfl sl wf⟩
    | _ => cases e
  | _ => cases e
theorem d_neg : UnR X (unaryOp .USub) (opR1 X.K cl gneg) := by
  intro pins s σ' H vx v Q I rx ⟨F, n, σ, ρ, x, z, hx, sl, wf, e, q⟩
  cases x with
  | int i => cases hx; cases e; exact un_neg pins s σ' H _ v Q I rx ⟨i, rfl, q.here rfl sl wf⟩
  | _ => cases e
theorem d_I {op : CmpOp} {p : Int → Int → Bool} (h : OpR X (compareOp op) (rI0 fun i j => .bl (p i j))) : OpR X (compareOp op) (opR X.K cl (gI p)) := by
  intro pins s σ' H vx vy v u Q I rx ry ⟨F, n, σ, ρ, x, y, z, hx, hy, sl, wf, e, q⟩
  cases x with
  | int i =>
    cases y with
    | int j => cases hx; cases hy; cases e; exact h pins s σ' H _ _ v u Q I rx ry ⟨i, j, rfl, rfl, q.here rfl sl wf⟩
    | _ => cases e
  | _ => cases e
def glt : D → D → Option D := gI fun a b => decide (a < b)
def gle : D → D → Option D := gI fun a b => decide (a ≤ b)
def ggt : D → D → Option D := gI fun a b => decide (b < a)
def gge : D → D → Option D := gI fun a b => decide (b ≤ a)
theorem d_lt : OpR X (compareOp .Lt) (opR X.K cl glt) := d_I op_lt
theorem d_le : OpR X (compareOp .LtE) (opR X.K cl gle) := d_I op_le
theorem d_gt : OpR X (compareOp .Gt) (opR X.K cl ggt) := d_I op_gt
theorem d_ge : OpR X (compareOp .GtE) (opR X.K cl gge) := d_I op_ge

theorem deq_dp {K : PySem.W.Frag} {F : Addr → Prop} {H : Hp} {x y : D} {vx vy : V} {b : Bool} (hx : R K cl F H x vx) (hy : R K cl F H y vy) (e : deqD x y = some b) : ∃ p q, Dp K H vx p ∧ Dp K H vy q ∧ SeqAt.shaped p = true ∧ SeqAt.shaped q = true ∧ b = PyData.eqv p q := by
  unfold deqD at e
  cases h1 : D.py x with
  | none => rw [h1] at e; cases e
  | some p =>
    cases h2 : D.py y with
    | none => rw [h1, h2] at e; cases e
    | some q =>
      rw [h1, h2] at e
      dsimp only at e
      split at e
      · rename_i hs
        cases e
        exact ⟨p, q, R.dp hx h1, R.dp hy h2, hs.1, hs.2, rfl⟩
      · cases e
/-- == by values: flat, or as data -/
theorem deq_or {K : PySem.W.Frag} {F : Addr → Prop} {H : Hp} {x y : D} {vx vy : V} {b : Bool} (hx : R K cl F H x vx) (hy : R K cl F H y vy) (e : deq x y = some b) :
    (scal vx vy = true ∧ b = decide (vx = vy)) ∨ ∃ p q, Dp K H vx p ∧ Dp K H vy q ∧ SeqAt.shaped p = true ∧ SeqAt.shaped q = true ∧ b = PyData.eqv p q := by
  unfold deq at e
  split at e
  · cases hx; cases hy; cases e; left; refine ⟨rfl, ?_⟩; simp
  · cases hx; cases hy; cases e; left; refine ⟨rfl, ?_⟩; simp
  · cases hx; cases hy; cases e; left; refine ⟨rfl, ?_⟩; simp
  · cases hx; cases hy; cases e; left; refine ⟨rfl, ?_⟩; simp
  · cases hx; cases hy; cases e; left; refine ⟨rfl, ?_⟩; simp
  · cases hx; cases hy; cases e; left; refine ⟨rfl, ?_⟩; simp
  · cases hx; cases hy; cases e; left; refine ⟨rfl, ?_⟩; simp
  · cases hx; cases hy; cases e; left; refine ⟨rfl, ?_⟩; simp
  · cases hx; cases hy; cases e; left; refine ⟨rfl, ?_⟩; simp
  · cases hx; cases hy; cases e; left; refine ⟨rfl, ?_⟩; simp
  · cases hx; cases hy; cases e; left; refine ⟨rfl, ?_⟩; simp
  · cases hx; cases hy; cases e; left; refine ⟨rfl, ?_⟩; simp
  · exact .inr (deq_dp hx hy e)
theorem d_eq (hu : X.A.units + 64 < cLine) : OpR X (compareOp .Eq) (opR X.K cl geq) := by
  intro pins s σ' H vx vy v u Q I rx ry ⟨F, n, σ, ρ, x, y, z, hx, hy, sl, wf, e, q⟩
  unfold geq at e
  cases h : deq x y with
  | none => rw [h] at e; cases e
  | some b =>
    rw [h] at e
    cases e
    rcases deq_or hx hy h with ⟨h1, h2⟩ | ⟨p, p', h1, h2, h3, h4, h5⟩
    · exact op_eq pins s σ' H _ _ v u Q I rx ry ⟨h1, q.here (by rw [h2]; exact rfl) sl wf⟩
    · exact op_eqD hu pins s σ' H _ _ v u Q I rx ry ⟨p, p', h1, h2, h3, h4, q.here (by rw [h5]; exact rfl) sl wf⟩
theorem d_ne (hu : X.A.units + 64 < cLine) : OpR X (compareOp .NotEq) (opR X.K cl gne) := by
  intro pins s σ' H vx vy v u Q I rx ry ⟨F, n, σ, ρ, x, y, z, hx, hy, sl, wf, e, q⟩
  unfold gne at e
  cases h : deq x y with
  | none => rw [h] at e; cases e
  | some b =>
    rw [h] at e
    cases e
    rcases deq_or hx hy h with ⟨h1, h2⟩ | ⟨p, p', h1, h2, h3, h4, h5⟩
    · exact op_ne pins s σ' H _ _ v u Q I rx ry ⟨h1, q.here (by rw [h2]; exact rfl) sl wf⟩
    · exact op_neD hu pins s σ' H _ _ v u Q I rx ry ⟨p, p', h1, h2, h3, h4, q.here (by rw [h5]; exact rfl) sl wf⟩

/-! ### in, not in -/
def isfl : D → Bool
  | .non => true
  | .bl _ => true
  | .int _ => true
  | .str _ => true
  | _ => false
/-- == of flat data -/
def feq : D → D → Bool
  | .non, .non => true
  | .bl a, .bl b => a == b
  | .bl a, .int b => (if a then 1 else 0) == b
  | .int a, .bl b => a == (if b then 1 else 0)
  | .int a, .int b => a == b
  | .str a, .str b => a == b
  | _, _ => false
def dinL (x : D) (ys : List D) : Option Bool :=
  if isfl x = true ∧ ys.all isfl = true then some (ys.any fun y => feq y x)
  else match D.py x, D.pys ys with
    | some p, some qs => if SeqAt.shaped p = true ∧ SeqAt.shaped (.list qs) = true then some (qs.any fun q => PyData.eqv q p) else none
    | _, _ => none
def din (x : D) : D → Option Bool
  | .tup ys => dinL x ys
  | .lst ys => dinL x ys
  | .str z => match x with
    | .str y => match y.cps.toList with
      | [c] => some (decide (c ∈ z.cps.toList))
      | _ => none
    | _ => none
  | _ => none
def gin (x y : D) : Option D := (din x y).map .bl
def gnin (x y : D) : Option D := (din x y).map fun b => .bl (!b)
theorem isfl_V {K : PySem.W.Frag} {F : Addr → Prop} {H : Hp} {x : D} {v : V} (r : R K cl F H x v) (h : isfl x = true) : flatV v = true := by
  cases x with
  | non => cases r; rfl
  | bl _ => cases r; rfl
  | int _ => cases r; rfl
  | str _ => cases r; rfl
  | _ => cases h
theorem feq_V {K : PySem.W.Frag} {F : Addr → Prop} {H : Hp} {x y : D} {v u : V} (r : R K cl F H x v) (r2 : R K cl F H y u) (h : isfl x = true) (h2 : isfl y = true) : feq x y = eqV v u := by
  cases x with
  | non =>
    cases r
    cases y with
    | non => cases r2; rfl
    | bl _ => cases r2; rfl
    | int _ => cases r2; rfl
    | str _ => cases r2; rfl
    | _ => cases h2
  | bl _ =>
    cases r
    cases y with
    | non => cases r2; rfl
    | bl _ => cases r2; rfl
    | int _ => cases r2; rfl
    | str _ => cases r2; rfl
    | _ => cases h2
  | int _ =>
    cases r
    cases y with
    | non => cases r2; rfl
    | bl _ => cases r2; rfl
    | int _ => cases r2; rfl
    | str _ => cases r2; rfl
    | _ => cases h2
  | str _ =>
    cases r
    cases y with
    | non => cases r2; rfl
    | bl _ => cases r2; rfl
    | int _ => cases r2; rfl
    | str _ => cases r2; rfl
    | _ => cases h2
  | _ => cases h
theorem flat_all {K : PySem.W.Frag} {F : Addr → Prop} {H : Hp} : ∀ {xs : List D} {vs : List V}, RL K cl F H xs vs → xs.all isfl = true → vs.all flatV = true
  | [], _, r, _ => by rw [show _ = [] from r]; rfl
  | x :: xs, _, ⟨v, us, e, r, rs⟩, h => by
    rw [e]
    rw [List.all_cons, Bool.and_eq_true] at h ⊢
    exact ⟨isfl_V r h.1, flat_all rs h.2⟩
theorem any_V {K : PySem.W.Frag} {F : Addr → Prop} {H : Hp} {x : D} {v : V} (r : R K cl F H x v) (h : isfl x = true) : ∀ {xs : List D} {vs : List V}, RL K cl F H xs vs → xs.all isfl = true → inV v vs = xs.any fun y => feq y x
  | [], _, r, _ => by rw [show _ = [] from r]; rfl
  | y :: xs, _, ⟨u, us, e, ry, rs⟩, hs => by
    rw [e]
    rw [List.all_cons, Bool.and_eq_true] at hs
    show (eqV u v || inV v us) = (feq y x || xs.any fun y => feq y x)
    rw [feq_V ry r hs.1 h, any_V r h rs hs.2]
/-- in by values -/
theorem dinL_or {K : PySem.W.Frag} {F : Addr → Prop} {H : Hp} {x : D} {v : V} {ys : List D} {us : List V} {b : Bool} (r : R K cl F H x v) (rs : RL K cl F H ys us) (e : dinL x ys = some b) :
    (flatV v = true ∧ us.all flatV = true ∧ b = inV v us) ∨ ∃ p qs, Dp K H v p ∧ DpAll K H us qs ∧ SeqAt.shaped p = true ∧ SeqAt.shaped (.list qs) = true ∧ b = qs.any fun q => PyData.eqv q p := by
  unfold dinL at e
  split at e
  · rename_i h
    cases e
    exact .inl ⟨isfl_V r h.1, flat_all rs h.2, (any_V r h.1 rs h.2).symm⟩
  · cases h1 : D.py x with
    | none => rw [h1] at e; cases e
    | some p =>
      cases h2 : D.pys ys with
      | none => rw [h1, h2] at e; cases e
      | some qs =>
        rw [h1, h2] at e
        dsimp only at e
        split at e
        · rename_i hs
          cases e
          exact .inr ⟨p, qs, R.dp r h1, RL.dp rs h2, hs.1, hs.2, rfl⟩
        · cases e
end
end KR

set_option Elab.async false
set_option linter.all false
set_option maxRecDepth 100000
set_option maxHeartbeats 2000000
/-! Rules: in, places, slices, lengths, displays, calls of built-ins. -/
namespace KR
open PySem L2 PyProof.Rows
section
variable {X : Cx} {cl : Nat → Addr}
theorem op_inDT (hu : X.A.units + 65 < cLine) : OpR X (compareOp .In) (fun x y H Q => ∃ d ds, Dp X.K H x d ∧ Dp X.K H y (.tuple ds) ∧ SeqAt.shaped d = true ∧ SeqAt.shaped (.list ds) = true ∧ Q (.bl (ds.any fun z => PyData.eqv z d)) H) := by
  intro pins s σ H x y v u Q I rx ry h
  obtain ⟨d, ds, hd, he, sd, se, q⟩ := h
  obtain ⟨as, r1⟩ := Dp.reads I d x v hd rx
  obtain ⟨bs, r2⟩ := Dp.reads I (.tuple ds) y u he ry
  exact SeqAt.in_tuple_reads r2 r1 (SeqAt.canLay_of_shaped se) (SeqAt.canLay_of_shaped sd) (room_in_shaped sd hu) ⟨.bl _, H, I, rfl, q⟩
theorem op_notInDT (hu : X.A.units + 65 < cLine) : OpR X (compareOp .NotIn) (fun x y H Q => ∃ d ds, Dp X.K H x d ∧ Dp X.K H y (.tuple ds) ∧ SeqAt.shaped d = true ∧ SeqAt.shaped (.list ds) = true ∧ Q (.bl (!ds.any fun z => PyData.eqv z d)) H) := by
  intro pins s σ H x y v u Q I rx ry h
  obtain ⟨d, ds, hd, he, sd, se, q⟩ := h
  obtain ⟨as, r1⟩ := Dp.reads I d x v hd rx
  obtain ⟨bs, r2⟩ := Dp.reads I (.tuple ds) y u he ry
  exact SeqAt.notIn_tuple_reads r2 r1 (SeqAt.canLay_of_shaped se) (SeqAt.canLay_of_shaped sd) (room_in_shaped sd hu) ⟨.bl _, H, I, rfl, q⟩
/-- what din says, by values -/
theorem din_cases {F : Addr → Prop} {H : Hp} {x y : D} {vx vy : V} {b : Bool} (hx : R X.K cl F H x vx) (hy : R X.K cl F H y vy) (e : din x y = some b) :
    (∃ p us, vy = .ref p ∧ (SqL X.K H p us ∨ SqT X.K H p us) ∧ flatV vx = true ∧ us.all flatV = true ∧ b = inV vx us) ∨
    (∃ d ds, Dp X.K H vx d ∧ Dp X.K H vy (.list ds) ∧ SeqAt.shaped d = true ∧ SeqAt.shaped (.list ds) = true ∧ b = ds.any fun z => PyData.eqv z d) ∨
    (∃ d ds, Dp X.K H vx d ∧ Dp X.K H vy (.tuple ds) ∧ SeqAt.shaped d = true ∧ SeqAt.shaped (.list ds) = true ∧ b = ds.any fun z => PyData.eqv z d) ∨
    ∃ (c : Nat) (z : Str), vx = .str ⟨#[c]⟩ ∧ vy = .str z ∧ b = decide (c ∈ z.cps.toList) := by
  cases y with
  | tup ys =>
    obtain ⟨a, us, rfl, ht, rs⟩ := hy
    have e : dinL x ys = some b := by cases x <;> exact e
    rcases dinL_or hx rs e with ⟨h1, h2, h3⟩ | ⟨p, qs, h1, h2, h3, h4, h5⟩
    · exact .inl ⟨a, us, rfl, .inr ht.seq, h1, h2, h3⟩
    · exact .inr (.inr (.inl ⟨p, qs, h1, .tup ht.seq h2, h3, h4, h5⟩))
  | lst ys =>
    obtain ⟨a, us, rfl, _, ht, rs⟩ := hy
    have e : dinL x ys = some b := by cases x <;> exact e
    rcases dinL_or hx rs e with ⟨h1, h2, h3⟩ | ⟨p, qs, h1, h2, h3, h4, h5⟩
    · exact .inl ⟨a, us, rfl, .inl (SqL.of ht), h1, h2, h3⟩
    · exact .inr (.inl ⟨p, qs, h1, .lst (SqL.of ht) h2, h3, h4, h5⟩)
  | str z =>
    cases hy
    cases x with
    | str y =>
      cases hx
      have e : (match y.cps.toList with | [c] => some (decide (c ∈ z.cps.toList)) | _ => none) = some b := e
      split at e
      · rename_i c hc
        cases e
        refine .inr (.inr (.inr ⟨c, z, ?_, rfl, rfl⟩))
        have : y = ⟨#[c]⟩ := by
          cases y with
          | mk a =>
            have h2 : a.toList = [c] := hc
            congr 1
            exact Array.toList_inj.mp (by rw [h2])
        rw [this]
      · cases e
    | _ => cases e
  | _ => cases e
theorem d_in (hu : X.A.units + 65 < cLine) : OpR X (compareOp .In) (opR X.K cl gin) := by
  intro pins s σ' H vx vy v u Q I rx ry ⟨F, n, σ, ρ, x, y, z, hx, hy, sl, wf, e, q⟩
  unfold gin at e
  cases h : din x y with
  | none => rw [h] at e; cases e
  | some b =>
    rw [h] at e
    cases e
    have q' : Q (.bl b) H := q.here rfl sl wf
    rcases din_cases (X := X) hx hy h with ⟨p, us, rfl, h1, h2, h3, rfl⟩ | ⟨d, ds, h1, h2, h3, h4, rfl⟩ | ⟨d, ds, h1, h2, h3, h4, rfl⟩ | ⟨c, z, rfl, rfl, rfl⟩
    · exact op_in_seq pins s σ' H _ _ v u Q I rx ry ⟨p, us, rfl, h1, h2, h3, q'⟩
    · exact op_inD hu pins s σ' H _ _ v u Q I rx ry ⟨d, ds, h1, h2, h3, h4, q'⟩
    · exact op_inDT hu pins s σ' H _ _ v u Q I rx ry ⟨d, ds, h1, h2, h3, h4, q'⟩
    · exact op_in_sign pins s σ' H _ _ v u Q I rx ry ⟨c, z, rfl, rfl, q'⟩
theorem d_notin (hu : X.A.units + 65 < cLine) : OpR X (compareOp .NotIn) (opR X.K cl gnin) := by
  intro pins s σ' H vx vy v u Q I rx ry ⟨F, n, σ, ρ, x, y, z, hx, hy, sl, wf, e, q⟩
  unfold gnin at e
  cases h : din x y with
  | none => rw [h] at e; cases e
  | some b =>
    rw [h] at e
    cases e
    have q' : Q (.bl (!b)) H := q.here rfl sl wf
    rcases din_cases (X := X) hx hy h with ⟨p, us, rfl, h1, h2, h3, rfl⟩ | ⟨d, ds, h1, h2, h3, h4, rfl⟩ | ⟨d, ds, h1, h2, h3, h4, rfl⟩ | ⟨c, z, rfl, rfl, rfl⟩
    · exact op_notIn_seq pins s σ' H _ _ v u Q I rx ry ⟨p, us, rfl, h1, h2, h3, q'⟩
    · exact op_notInD hu pins s σ' H _ _ v u Q I rx ry ⟨d, ds, h1, h2, h3, h4, q'⟩
    · exact op_notInDT hu pins s σ' H _ _ v u Q I rx ry ⟨d, ds, h1, h2, h3, h4, q'⟩
    · exact op_notIn_sign pins s σ' H _ _ v u Q I rx ry ⟨c, z, rfl, rfl, q'⟩

/-! ### places -/
def gix : D → D → Option D
  | .tup xs, .int i => atI xs i
  | .lst xs, .int i => atI xs i
  | .lsr xs, .int i => atI xs i
  | .str z, .int i => if z.length ≤ sizeLine then (atI z.cps.toList i).map fun c => .str ⟨#[c]⟩ else none
  | _, _ => none
theorem RL.at {K : PySem.W.Frag} {F : Addr → Prop} {H : Hp} {xs : List D} {vs : List V} {i : Int} {d : D} (r : RL K cl F H xs vs) (e : atI xs i = some d) : ∃ v, atI vs i = some v ∧ R K cl F H d v := by
  unfold atI at e ⊢
  rw [r.length]
  cases h : ixN xs.length i with
  | none => rw [h] at e; cases e
  | some j => rw [h] at e; exact r.get e
theorem d_ix : IxR X (opR X.K cl gix) := by
  intro value slice pins s σ' H vx vy v u Q I rx ry ⟨F, n, σ, ρ, x, y, z, hx, hy, sl, wf, e, q⟩ hs
  cases x with
  | tup xs =>
    cases y with
    | int i =>
      obtain ⟨a, vs, rfl, ht, rl⟩ := hx
      cases hy
      obtain ⟨w, ew, rw'⟩ := rl.at e
      exact ix_tup value slice pins s σ' H _ _ v u Q I rx ry ⟨a, vs, i, w, rfl, rfl, ht.seq, ew, q.here rw' sl wf⟩ hs
    | _ => cases e
  | lst xs =>
    cases y with
    | int i =>
      obtain ⟨a, vs, rfl, _, ht, rl⟩ := hx
      cases hy
      obtain ⟨w, ew, rw'⟩ := rl.at e
      exact ix_list value slice pins s σ' H _ _ v u Q I rx ry ⟨a, vs, i, w, rfl, rfl, SqL.of ht, ew, q.here rw' sl wf⟩ hs
    | _ => cases e
  | lsr xs =>
    cases y with
    | int i =>
      obtain ⟨a, vs, rfl, ht, rl⟩ := hx
      cases hy
      obtain ⟨w, ew, rw'⟩ := rl.at e
      exact ix_list value slice pins s σ' H _ _ v u Q I rx ry ⟨a, vs, i, w, rfl, rfl, ht.seq, ew, q.here rw' sl wf⟩ hs
    | _ => cases e
  | str t =>
    cases y with
    | int i =>
      cases hx; cases hy
      unfold gix at e
      try dsimp only at e
      split at e
      · rename_i hz
        cases h : atI t.cps.toList i with
        | none => rw [h] at e; cases e
        | some c =>
          rw [h] at e
          cases e
          exact ix_str value slice pins s σ' H _ _ v u Q I rx ry ⟨t, i, c, rfl, rfl, hz, h, q.here rfl sl wf⟩ hs
      · cases e
    | _ => cases e
  | _ => cases e
end

section
variable {C : Cf} {a b : Expr} {da db : M D} {pos : Pos}
theorem e_ix (ha : DE C a da) (hb : DE C b db) (hs : PlainIx b) : DE C (.Subscript a b pos) (bin gix da db) := by
  refine PE.imp (pe_ix (d_ix (cl := C.cl)) ha hb hs) fun σ H Q h => two h fun F H n ρ x y vx vy rx ry sl wf q => ?_
  obtain ⟨z, e, q⟩ := Mt_lift q
  exact ⟨F, n, σ, ρ, x, y, z, rx, ry, sl, wf, e, q⟩

/-! ### slices -/
def cutD (xs : List D) (lo hi : Option Int) : List D := (xs.drop (HT.sIx xs.length 0 lo)).take (HT.sIx xs.length xs.length hi - HT.sIx xs.length 0 lo)
def gsl (lo hi : Option Int) : D → Option D
  | .tup xs => some (.tup (cutD xs lo hi))
  | .lst xs => some (.lst (cutD xs lo hi))
  | .lsr xs => some (.lst (cutD xs lo hi))
  | .str z => if z.length ≤ sizeLine then some (.str (cutS z lo hi)) else none
  | _ => none
def slR (K : PySem.W.Frag) (cl : Nat → Addr) : V → Option Int → Option Int → Hp → VK → Prop := fun vx lo hi H Q => ∃ (F : Addr → Prop) (n : Addr → Nat) (σ : L2.St) (ρ : Env) (x z : D),
  R K cl F H x vx ∧ SL K cl F H ρ σ n ∧ WF F H n ∧ gsl lo hi x = some z ∧ pD K cl F H n σ Q z ρ
theorem RL.cut {K : PySem.W.Frag} {cl : Nat → Addr} {F : Addr → Prop} {H : Hp} {xs : List D} {vs : List V} (r : RL K cl F H xs vs) (lo hi : Option Int) : RL K cl F H (cutD xs lo hi) (cutV vs lo hi) := by
  unfold cutD cutV
  rw [r.length]
  exact (r.drop _).take _
theorem d_sl {X : Cx} {cl : Nat → Addr} : SlR X (slR X.K cl) := by
  intro pins s σ' H vx v vl vu lo hi sl' Q I rx hs pl pu ⟨F, n, σ, ρ, x, z, hx, sl, wf, e, q⟩
  cases x with
  | tup xs =>
    obtain ⟨a, vs, rfl, ht, rl⟩ := hx
    cases e
    refine sl_tupA pins s σ' H _ v vl vu lo hi sl' Q I rx hs pl pu ⟨a, vs, rfl, ht.seq, fun hw => ?_, fun _ p hp => q.tup hp sl wf (rl.cut lo hi)⟩
    have l := rl.length
    have ec : cutD xs lo hi = xs := by
      unfold cutD
      rw [← l, hw.1, hw.2]
      simp [l]
    rw [ec] at q
    exact q.here ⟨a, vs, rfl, ht, rl⟩ sl wf
  | lst xs =>
    obtain ⟨a, vs, rfl, _, ht, rl⟩ := hx
    cases e
    exact sl_list pins s σ' H _ v vl vu lo hi sl' Q I rx hs pl pu ⟨a, vs, rfl, SqL.of ht, fun p hp => q.lst hp sl wf (rl.cut lo hi)⟩
  | lsr xs =>
    obtain ⟨a, vs, rfl, ht, rl⟩ := hx
    cases e
    exact sl_list pins s σ' H _ v vl vu lo hi sl' Q I rx hs pl pu ⟨a, vs, rfl, ht.seq, fun p hp => q.lst hp sl wf (rl.cut lo hi)⟩
  | str t =>
    cases hx
    unfold gsl at e
    try dsimp only at e
    split at e
    · rename_i hz
      cases e
      exact sl_str pins s σ' H _ v vl vu lo hi sl' Q I rx hs pl pu ⟨t, rfl, hz, q.here rfl sl wf⟩
    · cases e
  | _ => cases e
def asI : D → Option Int
  | .int i => some i
  | _ => none
theorem asI_R {K : PySem.W.Frag} {cl : Nat → Addr} {F : Addr → Prop} {H : Hp} {x : D} {v : V} {k : Int} (r : R K cl F H x v) (e : asI x = some k) : v = .int k := by
  cases x with
  | int b => cases e; exact r
  | _ => cases e
/-- a bound of a slice -/
def DP (C : Cf) (e : Option Expr) (d : M (Option Int)) : Prop :=
  PO C.X e (fun σ H Q => ∃ (F : Addr → Prop) (ρ : Env) (n : Addr → Nat), SL C.X.K C.cl F H ρ σ n ∧ WF F H n ∧ Mt C.X.K C.cl C.W F H n σ (d ρ) fun o ρ' => ∀ (F' : Addr → Prop) (H' : Hp) (n' : Addr → Nat), SL C.X.K C.cl F' H' ρ' σ n' → WF F' H' n' → Ext F H n F' H' n' → Q o H')
theorem PO.imp {X : Cx} {e : Option Expr} {t t' : TO} (h : PO X e t) (i : ∀ σ H Q, t' σ H Q → t σ H Q) : PO X e t' := ⟨fun pins s σ H Q I q => h.run pins s σ H Q I (i σ H Q q)⟩
theorem p_none : DP C none (ret none) := PO.imp po_none fun σ H Q ⟨F, ρ, n, sl, wf, q⟩ => q F H n sl wf Ext.refl
def par (d : M D) : M (Option Int) := bnd d fun x => bnd (lift (asI x)) fun i => ret (some i)
theorem p_some (h : DE C a da) : DP C (some a) (par da) := by
  refine PO.imp (po_some h) fun σ H Q ⟨F, ρ, n, sl, wf, q⟩ => ⟨F, ρ, n, sl, wf, q.bnd.imp fun x ρ1 q => ?_⟩
  obtain ⟨i, e, q⟩ := Mt_lift q.bnd
  intro v F1 H1 n1 rx sl1 wf1 ex1
  exact ⟨i, asI_R rx e, q F1 H1 n1 sl1 wf1 ex1⟩
def cut (d : M D) (lo hi : M (Option Int)) : M D := bnd d fun x => bnd lo fun i => bnd hi fun j => lift (gsl i j x)
theorem e_sl {lo hi : Option Expr} {dl dh : M (Option Int)} {p2 : Pos} (ha : DE C a da) (hl : DP C lo dl) (hh : DP C hi dh) : DE C (.Subscript a (.Slice lo hi none p2) pos) (cut da dl dh) := by
  refine PE.imp (pe_slice (d_sl (cl := C.cl)) ha hl hh) fun σ H Q ⟨F, ρ, n, sl, wf, q⟩ => ⟨F, ρ, n, sl, wf, q.bnd.imp fun x ρ1 q => ?_⟩
  intro vx F1 H1 n1 rx sl1 wf1 ex1
  refine ⟨F1, ρ1, n1, sl1, wf1, q.bnd.step wf ex1 fun i ρ2 q => ?_⟩
  intro F2 H2 n2 sl2 wf2 ex2
  have ex := ex1.trans wf ex2
  refine ⟨F2, ρ2, n2, sl2, wf2, q.bnd.step wf ex fun j ρ3 q => ?_⟩
  intro F3 H3 n3 sl3 wf3 ex3
  obtain ⟨z, e, q⟩ := Mt_lift q
  exact ⟨F3, n3, σ, ρ3, x, z, (rx.ext wf1 ex2).ext wf2 ex3, sl3, wf3, e, q.step wf (ex.trans wf ex3)⟩

/-! ### argument lists, displays -/
def acons (d : M D) (ds : M (List D)) : M (List D) := bnd d fun x => bnd ds fun xs => ret (x :: xs)
theorem a_nil : DA C [] (ret []) := PA.imp pa_nil fun σ H Q ⟨F, ρ, n, sl, wf, q⟩ => q [] F H n rfl sl wf Ext.refl
theorem a_cons {es : List Expr} {ds : M (List D)} (ha : DE C a da) (hr : DA C es ds) (hs : starEach (a :: es) C.X.env = (false, eval a C.X.env) :: starEach es C.X.env := by rfl) : DA C (a :: es) (acons da ds) := by
  refine PA.imp (pa_cons ha hr hs) fun σ H Q ⟨F, ρ, n, sl, wf, q⟩ => ⟨F, ρ, n, sl, wf, q.bnd.imp fun x ρ1 q => ?_⟩
  intro v F1 H1 n1 rx sl1 wf1 ex1
  refine ⟨F1, ρ1, n1, sl1, wf1, q.bnd.step wf ex1 fun xs ρ2 q => ?_⟩
  intro vs F2 H2 n2 rs sl2 wf2 ex2
  exact q (v :: vs) F2 H2 n2 ⟨v, vs, rfl, rx.ext wf1 ex2, rs⟩ sl2 wf2 (ex1.trans wf ex2)
def dtup (ds : M (List D)) : M D := bnd ds fun xs => lift (if xs.length ≤ sizeLine then some (.tup xs) else none)
theorem e_tup {es : List Expr} {ds : M (List D)} {k} (h : DA C es ds) : DE C (.Tuple es k pos) (dtup ds) := by
  refine PE.imp (pe_tup h) fun σ H Q ⟨F, ρ, n, sl, wf, q⟩ => ⟨F, ρ, n, sl, wf, q.bnd.imp fun xs ρ1 q => ?_⟩
  obtain ⟨z, e, q⟩ := Mt_lift q
  intro vs F1 H1 n1 rs sl1 wf1 ex1
  split at e
  · rename_i hz
    cases e
    exact ⟨by rw [rs.length]; exact hz, fun p hp => (q.step wf ex1).tup hp sl1 wf1 rs⟩
  · cases e
/-- a new object, owned -/
theorem pO.new {K : PySem.W.Frag} {cl : Nat → Addr} {F : Addr → Prop} {H : Hp} {n : Addr → Nat} {σ : L2.St} {Q : VK} {ρ : Env} {x : RV} {p : Addr} {o : HO} (q : pO K cl F H n σ Q x ρ) (hp : H p = none) (sl : SL K cl F H ρ σ n) (wf : WF F H n)
    (r : RO K cl F (upd H p o) x (.ref p) (one p)) : Q (.ref p) (upd H p o) := by
  obtain ⟨w2, e2⟩ := new_own (o := o) wf hp
  exact q _ _ _ _ n r (sl.ext wf (fun a h => h) fun a h => upd_ne fun e => h (by rw [e]; exact hp)) w2 e2
theorem RL.newo {K : PySem.W.Frag} {cl : Nat → Addr} {F : Addr → Prop} {H : Hp} {n : Addr → Nat} {xs : List D} {vs : List V} {p : Addr} {o : HO} (r : RL K cl F H xs vs) (hp : H p = none) (wf : WF F H n) : RL K cl F (upd H p o) xs vs :=
  RL.mono (fun a h => h) (fun a h => upd_ne fun e => wf.hf a h (by rw [e]; exact hp)) xs r
def dlst (ds : M (List D)) : M RV := bnd ds fun xs => lift (if xs.length ≤ sizeLine then some (.olst xs) else none)
theorem o_lst {es : List Expr} {ds : M (List D)} (h : DA C es ds) : DO C (.List es pos) (dlst ds) := by
  refine PE.imp (pe_lst h) fun σ H Q ⟨F, ρ, n, sl, wf, q⟩ => ⟨F, ρ, n, sl, wf, q.bnd.imp fun xs ρ1 q => ?_⟩
  obtain ⟨z, e, q⟩ := Mt_lift q
  intro vs F1 H1 n1 rs sl1 wf1 ex1
  split at e
  · rename_i hz
    cases e
    exact ⟨by rw [rs.length]; exact hz, fun p hp => (q.step wf ex1).new hp sl1 wf1 ⟨p, vs, rfl, upd_same, rs.newo hp wf1, fun _ => rfl⟩⟩
  · cases e

/-! ### built-ins -/
theorem e_callB {g : List D → Option D} {x : Str} {id : String} {p : Pos} {es : List Expr} {ds : M (List D)} (hc : CallR C.X (.builtin id) (opRL C.X.K C.cl g)) (hg : Gl C.X x) (hm : C.X.mg x = none) (hv : bootBuiltins x = some (.builtin id)) (ha : DA C (a :: es) ds)
    (hn : x ≠ "__name__" := by decide) (hdb : (x == ("__debug__" : Str)) = false := by decide)
    (he : starEach (a :: es) C.X.env = (false, eval a C.X.env) :: starEach es C.X.env := by rfl) (hpl : (backTo pos (starEach es C.X.env)).any (·.1) = false := by rfl) : DE C (.Call (.Name x p) (a :: es) [] pos) (cal g ds) := by
  refine PE.imp (pe_callB hc hg hm hv ha hn hdb he hpl) fun σ H Q ⟨F, ρ, n, sl, wf, q⟩ => ⟨F, ρ, n, sl, wf, q.bnd.imp fun xs ρ1 q => ?_⟩
  obtain ⟨z, e, q⟩ := Mt_lift q
  intro vs F1 H1 n1 rs sl1 wf1 ex1
  exact ⟨F1, n1, σ, ρ1, xs, z, rs, sl1, wf1, e, q.step wf ex1⟩
theorem e_callTy {g : List D → Option D} {x : Str} {id : String} {p : Pos} {es : List Expr} {ds : M (List D)} (hc : CallR C.X (.type id) (opRL C.X.K C.cl g)) (hg : Gl C.X x) (hm : C.X.mg x = none) (hv : bootBuiltins x = some (.type id)) (ha : DA C (a :: es) ds)
    (hn : x ≠ "__name__" := by decide) (hdb : (x == ("__debug__" : Str)) = false := by decide)
    (he : starEach (a :: es) C.X.env = (false, eval a C.X.env) :: starEach es C.X.env := by rfl) (hpl : (backTo pos (starEach es C.X.env)).any (·.1) = false := by rfl) : DE C (.Call (.Name x p) (a :: es) [] pos) (cal g ds) := by
  refine PE.imp (pe_callTy hc hg hm hv ha hn hdb he hpl) fun σ H Q ⟨F, ρ, n, sl, wf, q⟩ => ⟨F, ρ, n, sl, wf, q.bnd.imp fun xs ρ1 q => ?_⟩
  obtain ⟨z, e, q⟩ := Mt_lift q
  intro vs F1 H1 n1 rs sl1 wf1 ex1
  exact ⟨F1, n1, σ, ρ1, xs, z, rs, sl1, wf1, e, q.step wf ex1⟩
end

section
variable {X : Cx} {cl : Nat → Addr}
theorem RL.one {K : PySem.W.Frag} {F : Addr → Prop} {H : Hp} {x : D} {vs : List V} (r : RL K cl F H [x] vs) : ∃ v, vs = [v] ∧ R K cl F H x v := by
  obtain ⟨v, us, e, rx, e2⟩ := r
  rw [show us = [] from e2] at e
  exact ⟨v, e, rx⟩
theorem RL.two {K : PySem.W.Frag} {F : Addr → Prop} {H : Hp} {x y : D} {vs : List V} (r : RL K cl F H [x, y] vs) : ∃ v u, vs = [v, u] ∧ R K cl F H x v ∧ R K cl F H y u := by
  obtain ⟨v, us, e, rx, r2⟩ := r
  obtain ⟨u, rfl, ry⟩ := RL.one r2
  exact ⟨v, u, e, rx, ry⟩
/-- of one argument -/
def f1 (g : D → Option D) : List D → Option D
  | [x] => g x
  | _ => none
def f2 (g : D → D → Option D) : List D → Option D
  | [x, y] => g x y
  | _ => none
theorem f1_of {g : D → Option D} {xs : List D} {z : D} (h : f1 g xs = some z) : ∃ x, xs = [x] ∧ g x = some z := by
  match xs, h with
  | [x], h => exact ⟨x, rfl, h⟩
theorem f2_of {g : D → D → Option D} {xs : List D} {z : D} (h : f2 g xs = some z) : ∃ x y, xs = [x, y] ∧ g x y = some z := by
  match xs, h with
  | [x, y], h => exact ⟨x, y, rfl, h⟩
def glen : D → Option D
  | .tup xs => some (.int xs.length)
  | .lst xs => some (.int xs.length)
  | .lsr xs => some (.int xs.length)
  | .str z => if z.length ≤ sizeLine then some (.int z.length) else none
  | _ => none
theorem d_len : CallR X (.builtin "len") (opRL X.K cl (f1 glen)) := by
  intro pins s σ' H vs us Q I r ⟨F, n, σ, ρ, xs, z, rs, sl, wf, e, q⟩
  obtain ⟨x, rfl, g1⟩ := f1_of e
  clear e
  have e := g1
  clear g1
  obtain ⟨v, rfl, rx⟩ := rs.one
  cases x with
  | tup xs =>
    obtain ⟨a, ws, rfl, ht, rl⟩ := rx
    cases e
    exact call_len_seq pins s σ' H _ us Q I r ⟨a, ws, rfl, .inr ht.seq, q.here (by rw [rl.length]; exact rfl) sl wf⟩
  | lst xs =>
    obtain ⟨a, ws, rfl, _, ht, rl⟩ := rx
    cases e
    exact call_len_seq pins s σ' H _ us Q I r ⟨a, ws, rfl, .inl (SqL.of ht), q.here (by rw [rl.length]; exact rfl) sl wf⟩
  | lsr xs =>
    obtain ⟨a, ws, rfl, ht, rl⟩ := rx
    cases e
    exact call_len_seq pins s σ' H _ us Q I r ⟨a, ws, rfl, .inl ht.seq, q.here (by rw [rl.length]; exact rfl) sl wf⟩
  | str t =>
    cases rx
    unfold glen at e
    try dsimp only at e
    split at e
    · rename_i hz
      cases e
      exact call_len_str pins s σ' H _ us Q I r ⟨t, rfl, hz, q.here rfl sl wf⟩
    · cases e
  | _ => cases e
def gabs : D → Option D
  | .int i => some (.int (if i < 0 then -i else i))
  | _ => none
theorem d_abs : CallR X (.builtin "abs") (opRL X.K cl (f1 gabs)) := by
  intro pins s σ' H vs us Q I r ⟨F, n, σ, ρ, xs, z, rs, sl, wf, e, q⟩
  obtain ⟨x, rfl, g1⟩ := f1_of e
  clear e
  have e := g1
  clear g1
  obtain ⟨v, rfl, rx⟩ := rs.one
  cases x with
  | int i => cases rx; cases e; exact call_abs pins s σ' H _ us Q I r ⟨i, rfl, q.here rfl sl wf⟩
  | _ => cases e
def gint : D → Option D
  | .int i => some (.int i)
  | .bl b => some (.int (if b then 1 else 0))
  | .str a => if a.length ≤ 640 then (PySem.intText? a).map .int else none
  | _ => none
theorem d_intf : CallR X (.type "int") (opRL X.K cl (f1 gint)) := by
  intro pins s σ' H vs us Q I r ⟨F, n, σ, ρ, xs, z, rs, sl, wf, e, q⟩
  obtain ⟨x, rfl, g1⟩ := f1_of e
  clear e
  have e := g1
  clear g1
  obtain ⟨v, rfl, rx⟩ := rs.one
  cases x with
  | int i => cases rx; cases e; exact call_int1 pins s σ' H _ us Q I r (.inl ⟨i, rfl, q.here rfl sl wf⟩)
  | bl b => cases rx; cases e; exact call_int1 pins s σ' H _ us Q I r (.inr ⟨b, rfl, q.here rfl sl wf⟩)
  | str a =>
    cases rx
    unfold gint at e
    try dsimp only at e
    split at e
    · rename_i hz
      cases h : PySem.intText? a with
      | none => rw [h] at e; cases e
      | some i => rw [h] at e; cases e; exact call_int_str pins s σ' H _ us Q I r ⟨a, i, rfl, h, hz, q.here rfl sl wf⟩
    · cases e
  | _ => cases e
def gstr : D → Option D
  | .int i => if i.natAbs.log2 < 1920 then some (.str (toString i)) else none
  | _ => none
theorem d_str : CallR X (.type "str") (opRL X.K cl (f1 gstr)) := by
  intro pins s σ' H vs us Q I r ⟨F, n, σ, ρ, xs, z, rs, sl, wf, e, q⟩
  obtain ⟨x, rfl, g1⟩ := f1_of e
  clear e
  have e := g1
  clear g1
  obtain ⟨v, rfl, rx⟩ := rs.one
  cases x with
  | int i =>
    cases rx
    unfold gstr at e
    try dsimp only at e
    split at e
    · rename_i hz
      cases e
      exact call_str_int pins s σ' H _ us Q I r ⟨i, rfl, hz, q.here rfl sl wf⟩
    · cases e
  | _ => cases e
def gtup : D → Option D
  | .tup xs => some (.tup xs)
  | .lst xs => some (.tup xs)
  | .lsr xs => some (.tup xs)
  | _ => none
theorem d_tuple : CallR X (.type "tuple") (opRL X.K cl (f1 gtup)) := by
  intro pins s σ' H vs us Q I r ⟨F, n, σ, ρ, xs, z, rs, sl, wf, e, q⟩
  obtain ⟨x, rfl, g1⟩ := f1_of e
  clear e
  have e := g1
  clear g1
  obtain ⟨v, rfl, rx⟩ := rs.one
  cases x with
  | tup xs =>
    obtain ⟨a, ws, rfl, ht, rl⟩ := rx
    cases e
    exact call_tuple_of pins s σ' H _ us Q I r ⟨a, ws, rfl, .inr ⟨ht.seq, q.here ⟨a, ws, rfl, ht, rl⟩ sl wf⟩⟩
  | lst xs =>
    obtain ⟨a, ws, rfl, _, ht, rl⟩ := rx
    cases e
    exact call_tuple_of pins s σ' H _ us Q I r ⟨a, ws, rfl, .inl ⟨SqL.of ht, fun p hp => q.tup hp sl wf rl⟩⟩
  | lsr xs =>
    obtain ⟨a, ws, rfl, ht, rl⟩ := rx
    cases e
    exact call_tuple_of pins s σ' H _ us Q I r ⟨a, ws, rfl, .inl ⟨ht.seq, fun p hp => q.tup hp sl wf rl⟩⟩
  | _ => cases e
def glist : D → Option D
  | .tup xs => some (.lst xs)
  | .lst xs => some (.lst xs)
  | .lsr xs => some (.lst xs)
  | _ => none
theorem d_list : CallR X (.type "list") (opRL X.K cl (f1 glist)) := by
  intro pins s σ' H vs us Q I r ⟨F, n, σ, ρ, xs, z, rs, sl, wf, e, q⟩
  obtain ⟨x, rfl, g1⟩ := f1_of e
  clear e
  have e := g1
  clear g1
  obtain ⟨v, rfl, rx⟩ := rs.one
  cases x with
  | tup xs =>
    obtain ⟨a, ws, rfl, ht, rl⟩ := rx
    cases e
    exact call_list_of pins s σ' H _ us Q I r ⟨a, ws, rfl, .inr ht.seq, fun p hp => q.lst hp sl wf rl⟩
  | lst xs =>
    obtain ⟨a, ws, rfl, _, ht, rl⟩ := rx
    cases e
    exact call_list_of pins s σ' H _ us Q I r ⟨a, ws, rfl, .inl (SqL.of ht), fun p hp => q.lst hp sl wf rl⟩
  | lsr xs =>
    obtain ⟨a, ws, rfl, ht, rl⟩ := rx
    cases e
    exact call_list_of pins s σ' H _ us Q I r ⟨a, ws, rfl, .inl ht.seq, fun p hp => q.lst hp sl wf rl⟩
  | _ => cases e
def gmax : D → D → Option D
  | .int i, .int j => some (.int (if j > i then j else i))
  | _, _ => none
def gmin : D → D → Option D
  | .int i, .int j => some (.int (if j < i then j else i))
  | _, _ => none
theorem d_max (hc : X.calm = true) : CallR X (.builtin "max") (opRL X.K cl (f2 gmax)) := by
  intro pins s σ' H vs us Q I r ⟨F, n, σ, ρ, xs, z, rs, sl, wf, e, q⟩
  obtain ⟨x, y, rfl, g1⟩ := f2_of e
  clear e
  have e := g1
  clear g1
  obtain ⟨v, u, rfl, rx, ry⟩ := rs.two
  cases x with
  | int i =>
    cases y with
    | int j => cases rx; cases ry; cases e; exact call_max2 hc pins s σ' H _ us Q I r ⟨i, j, rfl, q.here rfl sl wf⟩
    | _ => cases e
  | _ => cases e
theorem d_min (hc : X.calm = true) : CallR X (.builtin "min") (opRL X.K cl (f2 gmin)) := by
  intro pins s σ' H vs us Q I r ⟨F, n, σ, ρ, xs, z, rs, sl, wf, e, q⟩
  obtain ⟨x, y, rfl, g1⟩ := f2_of e
  clear e
  have e := g1
  clear g1
  obtain ⟨v, u, rfl, rx, ry⟩ := rs.two
  cases x with
  | int i =>
    cases y with
    | int j => cases rx; cases ry; cases e; exact call_min2 hc pins s σ' H _ us Q I r ⟨i, j, rfl, q.here rfl sl wf⟩
    | _ => cases e
  | _ => cases e
/-- ints of data -/
def dints : List D → Option (List Int)
  | [] => some []
  | .int i :: r => (dints r).map (i :: ·)
  | _ :: _ => none
theorem ints_RL {K : PySem.W.Frag} {F : Addr → Prop} {H : Hp} : ∀ {xs : List D} {vs : List V} {ns : List Int}, RL K cl F H xs vs → dints xs = some ns → vs = ns.map V.int
  | [], _, _, r, e => by rw [show _ = [] from r]; cases e; rfl
  | x :: xs, _, ns, ⟨v, us, ev, r, rs⟩, e => by
    cases x with
    | int i =>
      have e : (dints xs).map (i :: ·) = some ns := e
      cases h : dints xs with
      | none => rw [h] at e; cases e
      | some ms =>
        rw [h] at e
        cases e
        cases r
        rw [ev, ints_RL rs h]
        rfl
    | _ => cases e
def gsum : D → Option D
  | .lst xs => (dints xs).map fun ns => .int ns.sum
  | _ => none
theorem d_sum (hc : X.calm = true) : CallR X (.builtin "sum") (opRL X.K cl (f1 gsum)) := by
  intro pins s σ' H vs us Q I r ⟨F, n, σ, ρ, xs, z, rs, sl, wf, e, q⟩
  obtain ⟨x, rfl, g1⟩ := f1_of e
  clear e
  have e := g1
  clear g1
  obtain ⟨v, rfl, rx⟩ := rs.one
  cases x with
  | lst xs =>
    obtain ⟨a, ws, rfl, _, ht, rl⟩ := rx
    have e : (dints xs).map (fun ns => D.int ns.sum) = some z := e
    cases h : dints xs with
    | none => rw [h] at e; cases e
    | some ns =>
      rw [h] at e
      cases e
      have ew := ints_RL rl h
      subst ew
      exact L2.cr_sum hc pins s σ' H _ us Q I r ⟨a, ns, rfl, SqL.of ht, q.here rfl sl wf⟩
  | _ => cases e
end
end KR

set_option Elab.async false
set_option linter.all false
set_option maxRecDepth 100000
set_option maxHeartbeats 2000000
/-! What is walked: lists and tuples alike, by themselves, counted, in pairs. -/
namespace KR
open PySem L2 PyProof.Rows

/-- k tells a tuple from a list -/
def SqK (K : PySem.W.Frag) (k : Bool) (H : Hp) (a : Addr) (us : List V) : Prop := if k = true then SqT K H a us else SqL K H a us
def IsSeq (k : Bool) (h : Heap) (a : Addr) (its : Array Value) : Prop := if k = true then h.IsTuple a its else h.IsList a its
def IsIt (k : Bool) (h : Heap) (it a : Addr) (i : Nat) : Prop := if k = true then h.IsTupleIter it a i else h.IsListIter it a i
def itObj (k : Bool) (a : Addr) : Obj := if k = true then { cls := .type "tuple_iterator", data := .fields #[.ref a, .int 0 0] } else { cls := .type "list_iterator", data := .fields #[.ref a, .int 0 0] }
section
variable {X : Cx} {pins : List (Addr × Obj)} {σ : L2.St} {H : Hp} {s : Shared} {k : Bool} {a it : Addr} {us ws : List V} {i : Nat}
theorem seqK (I : L2.Inv X pins σ H s) (h : SqK X.K k H a us) : ∃ its : List Value, Vals us its ∧ IsSeq k s.heap a its.toArray ∧ us.length ≤ sizeLine := by
  cases k with
  | false =>
    obtain ⟨its, r, p, z⟩ := I.list h
    exact ⟨its, r, p.isList, z⟩
  | true =>
    obtain ⟨its, r, p, z⟩ := I.tuple h
    exact ⟨its, r, p, z⟩
theorem seqK_inj (I : L2.Inv X pins σ H s) (h : SqK X.K k H a us) (h' : SqK X.K k H a ws) : us = ws := by
  cases k with
  | false => exact I.list_inj h h'
  | true => exact I.tuple_inj h h'
theorem IsSeq.cls {h : Heap} {its : Array Value} (x : IsSeq k h a its) : ∃ o, h.get? a = some o ∧ (o.cls = .type "tuple" ∨ o.cls = .type "list") := by
  cases k with
  | false => obtain ⟨o, e, c, _⟩ := (show h.IsList a its from x); exact ⟨o, e, .inr c⟩
  | true => obtain ⟨o, e, c, _⟩ := (show h.IsTuple a its from x); exact ⟨o, e, .inl c⟩
theorem IsIt.cls {h : Heap} (x : IsIt k h it a i) : ∃ o, h.get? it = some o ∧ (o.cls = .type "tuple_iterator" ∨ o.cls = .type "list_iterator") ∧ ∀ v, o.data ≠ .cell v := by
  cases k with
  | false => obtain ⟨o, e, c, d⟩ := (show h.IsListIter it a i from x); exact ⟨o, e, .inr c, fun v z => by rw [d] at z; cases z⟩
  | true => obtain ⟨o, e, c, d⟩ := (show h.IsTupleIter it a i from x); exact ⟨o, e, .inl c, fun v z => by rw [d] at z; cases z⟩
theorem IsIt.keep {h h' : Heap} (x : IsIt k h it a i) (kk : ∀ o, h.get? it = some o → h'.get? it = some o) : IsIt k h' it a i := by
  cases k with
  | false => obtain ⟨o, e, c⟩ := (show h.IsListIter it a i from x); exact ⟨o, kk o e, c⟩
  | true => obtain ⟨o, e, c⟩ := (show h.IsTupleIter it a i from x); exact ⟨o, kk o e, c⟩
theorem IsSeq.keep {h h' : Heap} {its : Array Value} (x : IsSeq k h a its) (kk : ∀ o, h.get? a = some o → h'.get? a = some o) : IsSeq k h' a its := by
  cases k with
  | false => obtain ⟨o, e, c⟩ := (show h.IsList a its from x); exact ⟨o, kk o e, c⟩
  | true => obtain ⟨o, e, c⟩ := (show h.IsTuple a its from x); exact ⟨o, kk o e, c⟩
theorem it_ne {h : Heap} {its : Array Value} (x : IsSeq k h a its) (y : IsIt k h it a i) : a ≠ it := by
  obtain ⟨o, e, c⟩ := x.cls
  obtain ⟨o', e', c', _⟩ := y.cls
  rintro rfl
  rw [e] at e'
  cases e'
  rcases c with c | c <;> rcases c' with c' | c' <;> rw [c] at c' <;> exact absurd c' (by decide)
theorem drawsK {prog : Program} {w : World} {A : Around} (hh : A.handled = none) (it a : Addr) (hne : a ≠ it) (its : Array Value) :
    Draws prog w A it [it, a] its.size (fun i v => its[i]? = some v) (fun i h => IsIt k h it a i ∧ IsSeq k h a its) := by
  cases k with
  | false => exact Draws.list hh it a hne its
  | true => exact Draws.tuple hh it a hne its
theorem beginsK (a : Addr) (its : Array Value) : Begins (.ref a) (itObj k a) fun h => IsSeq k h a its := by
  cases k with
  | false => exact begins_list a its
  | true => exact begins_tuple a its
theorem itObj_is {h : Heap} (e : h.get? it = some (itObj k a)) : IsIt k h it a 0 := by
  cases k with
  | false => exact ⟨_, e, rfl, rfl⟩
  | true => exact ⟨_, e, rfl, rfl⟩
/-- a new tuple comes with the turn -/
theorem turned_tup {ch : List Addr} {T : Addr} {xs : List V} {vs : List Value} {h' : Heap} {t' : Nat} (I : L2.Inv X pins σ H s) (kk : ∀ b o, b ∉ ch → s.heap.get? b = some o → h'.get? b = some o) (hf : ∀ b ∈ ch, FpOk X pins H b)
    (hT : s.heap.objs.size ≤ T) (r : Vals xs vs) (hz : xs.length ≤ sizeLine) (e : h'.IsTuple T vs.toArray) : L2.Inv X pins σ (upd H T (.tup xs)) { s with heap := h', toks := t' } :=
  I.turnedNew (t' := t') kk hf hT ⟨hz, vs, r, e⟩
end

/-! ### enumerate -/
theorem meets_enum1 {v : Value} {o : Obj} {Hb : Heap → Prop} (B : Begins v o Hb) :
    Meets (Builtin.«enumerate.__new__» ⟨[.type "enumerate", v], []⟩) (fun _ R s => Hb s.heap ∧
      R (.ok (.ret (.ref (s.heap.push o).objs.size))) { s with heap := (s.heap.push o).push { cls := .type "enumerate", data := .fields #[.none, .bool false, .ref s.heap.objs.size, rawInt 0, .none, .none] } }) :=
  .of_wp fun prog w A R s hb => by
    obtain ⟨hp, g, d, tk, os⟩ := s
    obtain ⟨h1, hr⟩ := hb
    have hsubE := sub_enumerate
    have begin1 : ∀ {A' : Around} {E : Value → Shared → Prop} {Q : Value → Shared → Prop}, Q (.ref hp.objs.size) ⟨hp.push o, g, d, tk, os⟩ → wpAny (model prog w) A' (pyIter v) Q E ⟨hp, g, d, tk, os⟩ :=
      fun q1 => B.iter prog w _ _ ⟨hp, g, d, tk, os⟩ _ h1 q1
    wp_walk using begin1
    refine wpAny_stack_any fun st1 => wpAny_pure ?_
    split
    · rename_i c1 _ _ _ _ _
      cases (c1 == Value.type "enumerate")
      · wp_walk using begin1
        exact ⟨_, rfl, hr⟩
      · wp_walk using begin1
        exact ⟨_, rfl, hr⟩
    · wp_walk using begin1
      exact ⟨_, rfl, hr⟩
section
variable {prog : Program} {w : World} {A : Around} {E : Value → Shared → Prop} {s : Shared}
theorem enum1_begins {v : Value} {o : Obj} {Hb : Heap → Prop} {Q : Value → Shared → Prop} (B : Begins v o Hb) (h1 : Hb s.heap)
    (hq : ∀ h', IsEnum h' (s.heap.objs.size + 1) s.heap.objs.size 0 .none → h'.get? s.heap.objs.size = some o → (∀ b u, s.heap.get? b = some u → h'.get? b = some u) → Q (.ref (s.heap.objs.size + 1)) { s with heap := h' }) :
    wpAny (model prog w) A (call (.type "enumerate") [v]) Q E s := by
  refine callType_new F.called_enumerate (by decide) (F.typeCall_enumerate_1 _) (F.newCall_enumerate_1 _) (fun ob => F.args_object_init_2 ob _) F.entry_enumerate_new (meets_enum1 B) ⟨h1, ?_⟩
  have sz : (s.heap.push o).objs.size = s.heap.objs.size + 1 := Heap.size_push ..
  show _ ∧ _
  rw [sz]
  have eE : IsEnum ((s.heap.push o).push { cls := .type "enumerate", data := .fields #[.none, .bool false, .ref s.heap.objs.size, rawInt 0, .none, .none] }) (s.heap.objs.size + 1) s.heap.objs.size 0 .none := by
    have z := Heap.get?_push_size (s.heap.push o) (o := { cls := .type "enumerate", data := .fields #[.none, .bool false, .ref s.heap.objs.size, rawInt 0, .none, .none] }) rfl
    rw [sz] at z
    exact z
  exact ⟨⟨_, eE, rfl⟩, hq _ eE (Heap.get?_push_of_some _ (Heap.get?_push_size _ B.free)) fun b u x => Heap.get?_push_of_some _ (Heap.get?_push_of_some _ x)⟩
end
/-- the items at a in pairs with their places -/
def IteK (K : PySem.W.Frag) (k : Bool) (a : Addr) : It :=
  ⟨fun i H => ∃ (us : List V) (x : V), SqK K k H a us ∧ us[i]? = some x,
    fun i H v H' => ∃ (T : Addr) (x : V), v = .ref T ∧ H T = none ∧ H' = upd H T (.tup [.int (i : Nat), x]) ∧ ∀ us, SqK K k H a us → us[i]? = some x,
    fun i H => ∃ us : List V, SqK K k H a us ∧ us.length ≤ i⟩
theorem turn_enumK {P : Program} {w : World} {K : PySem.W.Frag} {elts : List Expr} {kk : Nat} {tpos : Pos} (k : Bool) (a e it : Addr) :
    Turn P w K (.Tuple elts kk tpos) (IteK K k a) [e, it] e (fun i h => (∃ old, IsEnum h e it (0 + (i : Int)) old) ∧ IsIt k h it a i ∧ e ≠ it) where
  mem := by simp
  obj := fun i h st b hb => by
    obtain ⟨⟨old, he⟩, hi, _⟩ := st
    rcases List.mem_cons.mp hb with z | z
    · subst z
      exact ⟨_, he, fun v q => nomatch q⟩
    · have z2 : b = it := by simpa using z
      obtain ⟨o, ho, _, hd⟩ := hi.cls
      exact ⟨o, by rw [z2]; exact ho, hd⟩
  keep := fun i h h' st kp => let ⟨⟨old, he⟩, hi, hne⟩ := st; ⟨⟨old, kp e (by simp) _ he⟩, hi.keep fun o q => kp it (by simp) o q, hne⟩
  item := by
    intro X hP hw hK hc i pins s σ H E I hf st hg
    subst hP hw hK
    obtain ⟨⟨old, he⟩, hit, hne⟩ := st
    obtain ⟨us, x, hq, hx⟩ := hg
    obtain ⟨its, rv, p, hz⟩ := seqK I hq
    obtain ⟨u, hu, ru⟩ := rv.get hx
    have ha := it_ne p hit
    have hea : e ≠ a := fun z => by
      obtain ⟨o, eo, c⟩ := p.cls
      rw [← z] at eo
      have e1 : some o = some _ := eo.symm.trans he
      cases e1
      rcases c with c | c
      · exact absurd (show Value.type "enumerate" = Value.type "tuple" from c) (by decide)
      · exact absurd (show Value.type "enumerate" = Value.type "list" from c) (by decide)
    have D := drawsK (prog := X.prog) (w := X.w) (A := X.A.in1) (k := k) (I.ok.hd hc) it a ha its.toArray
    have G := GoesN.enumFrom (elts := elts) (x1 := kk) (pos := tpos) 0 D e hne (by simp [hne, hea]) (by simp)
    have hlt : i < its.toArray.size := by
      have := (List.getElem?_eq_some_iff.mp hu).1
      simpa using this
    refine G.goes i s (fun v s2 => ∃ y H', L2.Inv X pins σ H' s2 ∧ RelV y v ∧ (IteK X.K k a).yld i H y H' ∧ ((∃ old, IsEnum s2.heap e it (0 + ((i + 1 : Nat) : Int)) old) ∧ IsIt k s2.heap it a (i + 1) ∧ e ≠ it) ∧ ∀ b ∈ [e, it], H' b = none) E hlt ⟨⟨old, he⟩, hit, p⟩ fun v h' tk hY st' hk htk => ?_
    obtain ⟨T, t, y, rfl, hT, hy, hTt⟩ := hY
    have ey : y = u := by
      have q : its[i]? = some y := by simpa using hy
      rw [hu] at q
      exact (Option.some.inj q).symm
    subst ey
    have J := turned_tup (t' := tk) (xs := [.int (0 + (i : Int)), x]) (vs := [.int (0 + (i : Int)) t, y]) I hk hf hT (.cons ⟨_, rfl⟩ (.cons ru .nil)) (by show 2 ≤ sizeLine; decide) hTt
    have e0 : (0 + (i : Int)) = ((i : Nat) : Int) := by omega
    rw [e0] at J
    refine ⟨.ref T, _, J, rfl, ⟨T, x, rfl, I.hok.fresh hT, rfl, fun ws hws => by rw [seqK_inj I hws hq]; exact hx⟩, ⟨st'.1, st'.2.1, hne⟩, fun b hb => ?_⟩
    have hlt2 : b < s.heap.objs.size := by
      rcases List.mem_cons.mp hb with z | z
      · rw [z]; exact Heap.lt_size he
      · have z2 : b = it := by simpa using z
        obtain ⟨o, ho, _⟩ := hit.cls
        rw [z2]; exact Heap.lt_size ho
    rw [upd_ne (Nat.ne_of_lt (Nat.lt_of_lt_of_le hlt2 hT))]
    exact (hf b hb).1
  done := by
    intro X hP hw hK hc i pins s σ H E I hf st hg
    subst hP hw hK
    obtain ⟨⟨old, he⟩, hit, hne⟩ := st
    obtain ⟨us, hq, hx⟩ := hg
    obtain ⟨its, rv, p, hz⟩ := seqK I hq
    have ha := it_ne p hit
    have hea : e ≠ a := fun z => by
      obtain ⟨o, eo, c⟩ := p.cls
      rw [← z] at eo
      have e1 : some o = some _ := eo.symm.trans he
      cases e1
      rcases c with c | c
      · exact absurd (show Value.type "enumerate" = Value.type "tuple" from c) (by decide)
      · exact absurd (show Value.type "enumerate" = Value.type "list" from c) (by decide)
    have D := drawsK (prog := X.prog) (w := X.w) (A := X.A.in1) (k := k) (I.ok.hd hc) it a ha its.toArray
    have hl := rv.length
    -- the iterator stands behind its last item
    have hT : s.TypeIs (.ref e) "enumerate" := ⟨_, he, rfl⟩
    unfold pyNext
    refine wpAny_bind (wpAny_attempt (wpAny_callSpecial?_slot (name := Str.ofString "__next__") hT F.slot_enumerate_next
      (wpAny_call_entry F.slot_enumerate_next hT F.entry_enumerate_next ?_ (F.args_enumerate_next_1 _))))
    show wpAny _ _ (field (.ref e) 2 >>= _) _ _ _
    refine wpAny_bind (wpAny_field he rfl (x := .ref it) rfl ?_)
    have fin : ∀ (h' : Heap) (ex : Addr), Heap.ExtBut it s.heap h' → (∃ o, h'.get? ex = some o ∧ o.cls = .type "StopIteration") → wpAny (model X.prog X.w) X.A (do
        let b ← isInstance (.ref ex) (.type "StopIteration")
        if b then pure (none : Option Value) else throw (Value.ref ex)) (fun r s1 => r = none ∧ L2.Inv X pins σ H s1) E { s with heap := h' } := fun h' ex hx' ⟨o, ho, hcl⟩ => by
      refine wpAny_bind (wpAny_isInstance (T := "StopIteration") (b := true) ⟨o, ho, hcl⟩ isSubtype_stop ?_)
      obtain ⟨f0, f1, f2, f3, f4, f5⟩ := hf it (by simp)
      exact wpAny_pure ⟨rfl, I.turned (t' := s.toks) (fun b o hb q => hx' b o hb q) f0 f1 f3 f4 f5⟩
    have last : ∀ (Q : Value → Shared → Prop) (E' : Value → Shared → Prop), (∀ h' ex, Heap.ExtBut it s.heap h' → (∃ o, h'.get? ex = some o ∧ o.cls = .type "StopIteration") → E' (.ref ex) { s with heap := h' }) → wpAny (model X.prog X.w) X.A.in1 (Builtin.SmallTypes.nextOf (.ref it)) Q E' s := fun Q E' hE => by
      have hn : its.toArray[i]? = none := by
        have : its.length ≤ i := by omega
        simp [this]
      cases k with
      | false => exact wpAny_nextOf_list_end (I.ok.hd hc) hit p hn hE
      | true => exact wpAny_nextOf_tuple_end (I.ok.hd hc) hit p hn hE
    exact wpAny_bind (last _ _ fun h' ex h1 h2 => fin h' ex h1 h2)
  self := fun A i s Q E st h => let ⟨⟨_, he⟩, _⟩ := st; wpAny_pyIter_enum he h

/-! ### zip -/
/-- the items at a and b in pairs -/
def ItzK (K : PySem.W.Frag) (k k2 : Bool) (a b : Addr) : It :=
  ⟨fun i H => ∃ (us ws : List V), SqK K k H a us ∧ SqK K k2 H b ws ∧ i < min us.length ws.length,
    fun i H v H' => ∃ (T : Addr) (x y : V), v = .ref T ∧ H T = none ∧ H' = upd H T (.tup [x, y]) ∧ (∀ us, SqK K k H a us → us[i]? = some x) ∧ ∀ ws, SqK K k2 H b ws → ws[i]? = some y,
    fun i H => ∃ us ws : List V, SqK K k H a us ∧ SqK K k2 H b ws ∧ i = min us.length ws.length⟩
theorem zip_cells {P : Program} {w : World} {A : Around} {elts : List Expr} {kk : Nat} {tpos : Pos} (hh : A.handled = none) {k k2 : Bool} {a b z TI TO i1 i2 : Addr} {its its2 : Array Value} (S : ZipSep2 z TI TO i1 i2 [i1, a] [i2, b]) (h1 : a ≠ i1) (h2 : b ≠ i2) :
    GoesN P w A (.Tuple elts kk tpos) z (z :: TI :: TO :: ([i1, a] ++ [i2, b])) [z, TO, i1, i2] (min its.size its2.size) (fun i h₀ v h => ∃ T x y, v = .ref T ∧ h₀.objs.size ≤ T ∧ its[i]? = some x ∧ its2[i]? = some y ∧ h.IsTuple T #[x, y])
      (fun i h => IsZip h z TI TO .none ∧ IsTupOf2 h TI (.ref i1) (.ref i2) ∧ (∃ a1 a2, IsTupOf2 h TO a1 a2) ∧ (IsIt k h i1 a i ∧ IsSeq k h a its) ∧ IsIt k2 h i2 b i ∧ IsSeq k2 h b its2) :=
  GoesN.zip2 S (drawsK (A := A.in1) hh i1 a h1 its) (drawsK (A := A.in1) hh i2 b h2 its2)
theorem turn_zipK {P : Program} {w : World} {K : PySem.W.Frag} {elts : List Expr} {kk : Nat} {tpos : Pos} (k k2 : Bool) {a b z TI TO i1 i2 : Addr} (S : ZipSep2 z TI TO i1 i2 [i1, a] [i2, b]) :
    Turn P w K (.Tuple elts kk tpos) (ItzK K k k2 a b) [z, TI, TO, i1, i2] z (fun i h => IsZip h z TI TO .none ∧ IsTupOf2 h TI (.ref i1) (.ref i2) ∧ (∃ x y, IsTupOf2 h TO x y) ∧ IsIt k h i1 a i ∧ IsIt k2 h i2 b i) where
  mem := by simp
  obj := fun i h st c hc => by
    obtain ⟨hz, hTI, ⟨x, y, hTO⟩, h1, h2⟩ := st
    have e' : c = z ∨ c = TI ∨ c = TO ∨ c = i1 ∨ c = i2 := by simpa using hc
    rcases e' with q | q | q | q | q
    · subst q
      exact ⟨_, hz, fun v q => nomatch q⟩
    · subst q
      exact ⟨_, hTI, fun v q => nomatch q⟩
    · subst q
      exact ⟨_, hTO, fun v q => nomatch q⟩
    · subst q
      obtain ⟨o, ho, _, hd⟩ := h1.cls
      exact ⟨o, ho, hd⟩
    · subst q
      obtain ⟨o, ho, _, hd⟩ := h2.cls
      exact ⟨o, ho, hd⟩
  keep := fun i h h' st kp => by
    obtain ⟨hz, hTI, ⟨x, y, hTO⟩, h1, h2⟩ := st
    exact ⟨kp z (by simp) _ hz, kp TI (by simp) _ hTI, ⟨x, y, kp TO (by simp) _ hTO⟩, h1.keep fun o q => kp i1 (by simp) o q, h2.keep fun o q => kp i2 (by simp) o q⟩
  item := by
    intro X hP hw hK hc i pins s σ H E I hf st hg
    subst hP hw hK
    obtain ⟨hz, hTI, hTO, h1, h2⟩ := st
    obtain ⟨us, ws, hqx, hqy, hi⟩ := hg
    obtain ⟨its, rv, p, _⟩ := seqK I hqx
    obtain ⟨its2, rv2, p2, _⟩ := seqK I hqy
    have l1 := rv.length
    have l2 := rv2.length
    have G := zip_cells (P := X.prog) (w := X.w) (A := X.A) (elts := elts) (kk := kk) (tpos := tpos) (k := k) (k2 := k2) (its := its.toArray) (its2 := its2.toArray) (I.ok.hd hc) S (it_ne p h1) (it_ne p2 h2)
    refine G.goes i s (fun v s2 => ∃ y H', L2.Inv X pins σ H' s2 ∧ RelV y v ∧ (ItzK X.K k k2 a b).yld i H y H' ∧ (IsZip s2.heap z TI TO .none ∧ IsTupOf2 s2.heap TI (.ref i1) (.ref i2) ∧ (∃ x y, IsTupOf2 s2.heap TO x y) ∧ IsIt k s2.heap i1 a (i + 1) ∧ IsIt k2 s2.heap i2 b (i + 1)) ∧ ∀ b ∈ [z, TI, TO, i1, i2], H' b = none) E
      (by simp only [List.size_toArray]; omega) ⟨hz, hTI, hTO, ⟨h1, p⟩, h2, p2⟩ fun v h' tk hY st' hk htk => ?_
    obtain ⟨T, u, u2, rfl, hT, hu, hu2, hTt⟩ := hY
    have hlx : i < us.length := by omega
    have hly : i < ws.length := by omega
    obtain ⟨v1, e1, r1⟩ := rv.get (List.getElem?_eq_getElem hlx)
    obtain ⟨v2, e2, r2⟩ := rv2.get (List.getElem?_eq_getElem hly)
    have ea : v1 = u := by
      have q : its[i]? = some u := by simpa using hu
      rw [e1] at q
      exact Option.some.inj q
    have eb : v2 = u2 := by
      have q : its2[i]? = some u2 := by simpa using hu2
      rw [e2] at q
      exact Option.some.inj q
    subst ea eb
    have hf4 : ∀ c ∈ [z, TO, i1, i2], FpOk X pins H c := fun c hcm => hf c (by
      have e' : c = z ∨ c = TO ∨ c = i1 ∨ c = i2 := by simpa using hcm
      rcases e' with q | q | q | q <;> simp [q])
    have J := turned_tup (t' := tk) (xs := [us[i], ws[i]]) (vs := [v1, v2]) I hk hf4 hT (.cons r1 (.cons r2 .nil)) (by show 2 ≤ sizeLine; decide) hTt
    obtain ⟨g1, g2, g3, ⟨g4, _⟩, g5, _⟩ := st'
    refine ⟨.ref T, _, J, rfl, ⟨T, _, _, rfl, I.hok.fresh hT, rfl, fun xs hxs => by rw [seqK_inj I hxs hqx]; exact List.getElem?_eq_getElem hlx, fun xs hxs => by rw [seqK_inj I hxs hqy]; exact List.getElem?_eq_getElem hly⟩, ⟨g1, g2, g3, g4, g5⟩, fun c hcm => ?_⟩
    have hlt : c < s.heap.objs.size := by
      have e' : c = z ∨ c = TI ∨ c = TO ∨ c = i1 ∨ c = i2 := by simpa using hcm
      rcases e' with q | q | q | q | q
      · rw [q]; exact Heap.lt_size hz
      · rw [q]; exact Heap.lt_size hTI
      · rw [q]; obtain ⟨_, _, e⟩ := hTO; exact Heap.lt_size e
      · rw [q]; obtain ⟨_, e, _⟩ := h1.cls; exact Heap.lt_size e
      · rw [q]; obtain ⟨_, e, _⟩ := h2.cls; exact Heap.lt_size e
    rw [upd_ne (Nat.ne_of_lt (Nat.lt_of_lt_of_le hlt hT))]
    exact (hf c hcm).1
  done := by
    intro X hP hw hK hc i pins s σ H E I hf st hg
    subst hP hw hK
    obtain ⟨hz, hTI, hTO, h1, h2⟩ := st
    obtain ⟨us, ws, hqx, hqy, hi⟩ := hg
    obtain ⟨its, rv, p, _⟩ := seqK I hqx
    obtain ⟨its2, rv2, p2, _⟩ := seqK I hqy
    have l1 := rv.length
    have l2 := rv2.length
    have G := zip_cells (P := X.prog) (w := X.w) (A := X.A) (elts := elts) (kk := kk) (tpos := tpos) (k := k) (k2 := k2) (its := its.toArray) (its2 := its2.toArray) (I.ok.hd hc) S (it_ne p h1) (it_ne p2 h2)
    have hn : min its.toArray.size its2.toArray.size = i := by simp only [List.size_toArray]; omega
    refine G.stops s (fun s1 => L2.Inv X pins σ H s1) E (by rw [hn]; exact ⟨hz, hTI, hTO, ⟨h1, p⟩, h2, p2⟩) fun h' tk hk _ => ?_
    have hf4 : ∀ c ∈ [z, TO, i1, i2], FpOk X pins H c := fun c hcm => hf c (by
      have e' : c = z ∨ c = TO ∨ c = i1 ∨ c = i2 := by simpa using hcm
      rcases e' with q | q | q | q <;> simp [q])
    exact I.turnedL (t' := tk) (ch := [z, TO, i1, i2]) hk hf4
  self := fun A i s Q E st h => wpAny_pyIter_zip st.1 h
end KR

set_option Elab.async false
set_option linter.all false
set_option maxRecDepth 100000
set_option maxHeartbeats 2000000
/-! Rules: what is walked, statements, loops. -/
namespace KR
open PySem L2 PyProof.Rows

/-- what was frozen once is so still -/
def Lat (F0 : Addr → Prop) (H0 : Hp) (F : Addr → Prop) (H : Hp) : Prop := (∀ a, F0 a → F a) ∧ ∀ a, F0 a → H a = H0 a
/-- J walks the data xs -/
structure WalkD (K : PySem.W.Frag) (cl : Nat → Addr) (J : It) (xs : List D) (F0 : Addr → Prop) (H0 : Hp) : Prop where
  goes : ∀ (i : Nat) (F : Addr → Prop) (H : Hp) (n : Addr → Nat), i < xs.length → Lat F0 H0 F H → WF F H n → J.go i H
  stops : ∀ (F : Addr → Prop) (H : Hp) (n : Addr → Nat), Lat F0 H0 F H → WF F H n → J.stop xs.length H
  yields : ∀ (i : Nat) (F : Addr → Prop) (H : Hp) (n : Addr → Nat) (v : V) (H' : Hp), i < xs.length → Lat F0 H0 F H → WF F H n → J.yld i H v H' →
    ∃ (d : D) (F' : Addr → Prop), xs[i]? = some d ∧ R K cl F' H' d v ∧ WF F' H' n ∧ Ext F H n F' H' n ∧ Same H H'

section
variable {K : PySem.W.Frag} {cl : Nat → Addr} {W : WX} {F F' : Addr → Prop} {H H' : Hp} {n n' m : Addr → Nat} {σ : L2.St} {ρ : Env}
theorem RL.lat {xs : List D} {vs : List V} {F0 : Addr → Prop} {H0 : Hp} (r : RL K cl F0 H0 xs vs) (l : Lat F0 H0 F H) : RL K cl F H xs vs := RL.mono l.1 l.2 xs r
theorem R.lat {x : D} {v : V} {F0 : Addr → Prop} {H0 : Hp} (r : R K cl F0 H0 x v) (l : Lat F0 H0 F H) : R K cl F H x v := R.mono l.1 l.2 x r
/-- a list's or a tuple's items -/
def itOf (K : PySem.W.Frag) (k : Bool) (a : Addr) : It := if k = true then Itt K a else Itl K a
theorem R.seq {x : D} {v : V} {xs : List D} (r : R K cl F H x v) (e : x = .tup xs ∨ x = .lst xs ∨ x = .lsr xs) : ∃ (k : Bool) (a : Addr) (us : List V), v = .ref a ∧ (∀ F' H', Lat F H F' H' → SqK K k H' a us) ∧ RL K cl F H xs us := by
  rcases e with rfl | rfl | rfl
  · obtain ⟨a, us, rfl, h, rl⟩ := r
    exact ⟨true, a, us, rfl, fun F' H' l => (FT.mono h l.1 l.2).seq, rl⟩
  · obtain ⟨a, us, rfl, h1, h2, rl⟩ := r
    exact ⟨false, a, us, rfl, fun F' H' l => SqL.of (by rw [l.2 a h1]; exact h2), rl⟩
  · obtain ⟨a, us, rfl, h, rl⟩ := r
    exact ⟨false, a, us, rfl, fun F' H' l => (FL.mono h l.1 l.2).seq, rl⟩
theorem walkD_seq {k : Bool} {a : Addr} {us : List V} {xs : List D} (hs : ∀ F' H', Lat F H F' H' → SqK K k H' a us) (rl : RL K cl F H xs us) : WalkD K cl (itOf K k a) xs F H := by
  have hl := rl.length
  refine ⟨fun i F1 H1 n1 hi l w => ?_, fun F1 H1 n1 l w => ?_, fun i F1 H1 n1 v H2 hi l w y => ?_⟩
  · obtain ⟨v, hv, _⟩ := rl.get (List.getElem?_eq_getElem hi)
    cases k with
    | false => exact ⟨us, v, hs F1 H1 l, hv⟩
    | true => exact ⟨us, v, hs F1 H1 l, hv⟩
  · cases k with
    | false => exact ⟨us, hs F1 H1 l, by omega⟩
    | true => exact ⟨us, hs F1 H1 l, by omega⟩
  · obtain ⟨u, hu, ru⟩ := rl.get (List.getElem?_eq_getElem hi)
    have key : H2 = H1 ∧ us[i]? = some v := by
      cases k with
      | false => exact ⟨y.1, y.2 us (hs F1 H1 l)⟩
      | true => exact ⟨y.1, y.2 us (hs F1 H1 l)⟩
    obtain ⟨rfl, e⟩ := key
    rw [hu] at e
    cases e
    exact ⟨_, F1, List.getElem?_eq_getElem hi, ru.lat l, w, Ext.refl, Same.refl _⟩
theorem walkD_range {lo : Int} {k : Nat} : WalkD K cl (Itr lo k) ((List.range k).map fun i => .int (lo + (i : Nat))) F H := by
  refine ⟨fun i F1 H1 n1 hi l w => ?_, fun F1 H1 n1 l w => ?_, fun i F1 H1 n1 v H2 hi l w y => ?_⟩
  · show i < k; simpa using hi
  · show k ≤ _; simp
  · obtain ⟨rfl, rfl⟩ := y
    have hk : i < k := by simpa using hi
    exact ⟨.int (lo + (i : Nat)), F1, by simp [hk], rfl, w, Ext.refl, Same.refl _⟩
theorem walkD_str {z : Str} : WalkD K cl (Its z) (z.cps.toList.map fun c => .str ⟨#[c]⟩) F H := by
  refine ⟨fun i F1 H1 n1 hi l w => ?_, fun F1 H1 n1 l w => ?_, fun i F1 H1 n1 v H2 hi l w y => ?_⟩
  · show i < z.cps.size; simpa using hi
  · show z.cps.size ≤ _; simp
  · obtain ⟨rfl, c, hc, rfl⟩ := y
    exact ⟨.str ⟨#[c]⟩, F1, by simp [hc], rfl, w, Ext.refl, Same.refl _⟩
/-- pairs that come new -/
theorem new_pair {x y : D} {vx vy : V} {T : Addr} (w : WF F H n) (hT : H T = none) (rx : R K cl F H x vx) (ry : R K cl F H y vy) :
    R K cl (fun a => F a ∨ a = T) (upd H T (.tup [vx, vy])) (.tup [x, y]) (.ref T) ∧ WF (fun a => F a ∨ a = T) (upd H T (.tup [vx, vy])) n ∧ Ext F H n (fun a => F a ∨ a = T) (upd H T (.tup [vx, vy])) n ∧ Same H (upd H T (.tup [vx, vy])) := by
  obtain ⟨w2, e2⟩ := new_frz (o := .tup [vx, vy]) w hT
  exact ⟨⟨T, [vx, vy], rfl, .inl ⟨.inr rfl, .inl upd_same⟩, vx, [vy], rfl, rx.new hT w, vy, [], rfl, ry.new hT w, rfl⟩, w2, e2, fun b o h => by rw [upd_ne (ne_of_none h hT)]; exact h⟩
def enumD (i : Nat) : List D → List D
  | [] => []
  | x :: xs => .tup [.int (i : Nat), x] :: enumD (i + 1) xs
theorem enumD_length : ∀ (xs : List D) (i : Nat), (enumD i xs).length = xs.length
  | [], _ => rfl
  | _ :: xs, i => by unfold enumD; rw [List.length_cons, List.length_cons, enumD_length xs]
theorem enumD_get : ∀ (xs : List D) (i j : Nat) {d : D}, xs[j]? = some d → (enumD i xs)[j]? = some (.tup [.int ((i + j : Nat)), d])
  | [], _, _, _, h => by simp at h
  | x :: xs, i, 0, d, h => by
    simp at h
    subst h
    rfl
  | x :: xs, i, j + 1, d, h => by
    unfold enumD
    rw [List.getElem?_cons_succ, enumD_get xs (i + 1) j (by simpa using h)]
    have e : i + 1 + j = i + (j + 1) := by omega
    rw [e]
theorem walkD_enum {k : Bool} {a : Addr} {us : List V} {xs : List D} (hs : ∀ F' H', Lat F H F' H' → SqK K k H' a us) (rl : RL K cl F H xs us) : WalkD K cl (IteK K k a) (enumD 0 xs) F H := by
  have hl := rl.length
  have he := enumD_length xs 0
  refine ⟨fun i F1 H1 n1 hi l w => ?_, fun F1 H1 n1 l w => ?_, fun i F1 H1 n1 v H2 hi l w y => ?_⟩
  · have hi' : i < xs.length := by omega
    obtain ⟨v, hv, _⟩ := rl.get (List.getElem?_eq_getElem hi')
    exact ⟨us, v, hs F1 H1 l, hv⟩
  · exact ⟨us, hs F1 H1 l, by omega⟩
  · have hi' : i < xs.length := by omega
    obtain ⟨u, hu, ru⟩ := rl.get (List.getElem?_eq_getElem hi')
    obtain ⟨T, x, rfl, hT, rfl, hx⟩ := y
    have e := hx us (hs F1 H1 l)
    rw [hu] at e
    cases e
    obtain ⟨r2, w2, e2, s2⟩ := new_pair (x := .int (i : Nat)) (vx := .int (i : Nat)) w hT rfl (ru.lat l)
    refine ⟨_, _, ?_, r2, w2, e2, s2⟩
    rw [enumD_get xs 0 i (List.getElem?_eq_getElem hi')]
    simp
def zipD : List D → List D → List D
  | x :: xs, y :: ys => .tup [x, y] :: zipD xs ys
  | _, _ => []
theorem zipD_length : ∀ (xs ys : List D), (zipD xs ys).length = min xs.length ys.length
  | [], _ => by simp [zipD]
  | _ :: _, [] => by simp [zipD]
  | x :: xs, y :: ys => by
    unfold zipD
    rw [List.length_cons, zipD_length xs ys, List.length_cons, List.length_cons]
    omega
theorem zipD_get : ∀ (xs ys : List D) (j : Nat) {d e : D}, xs[j]? = some d → ys[j]? = some e → (zipD xs ys)[j]? = some (.tup [d, e])
  | [], _, _, _, _, h, _ => by simp at h
  | _ :: _, [], _, _, _, _, h => by simp at h
  | x :: xs, y :: ys, 0, d, e, h, h2 => by
    simp at h h2
    subst h h2
    rfl
  | x :: xs, y :: ys, j + 1, d, e, h, h2 => by
    unfold zipD
    rw [List.getElem?_cons_succ]
    exact zipD_get xs ys j (by simpa using h) (by simpa using h2)
theorem walkD_zip {k k2 : Bool} {a b : Addr} {us ws : List V} {xs ys : List D} (hs : ∀ F' H', Lat F H F' H' → SqK K k H' a us) (rl : RL K cl F H xs us) (hs2 : ∀ F' H', Lat F H F' H' → SqK K k2 H' b ws) (rl2 : RL K cl F H ys ws) :
    WalkD K cl (ItzK K k k2 a b) (zipD xs ys) F H := by
  have hl := rl.length
  have hl2 := rl2.length
  have he := zipD_length xs ys
  refine ⟨fun i F1 H1 n1 hi l w => ?_, fun F1 H1 n1 l w => ?_, fun i F1 H1 n1 v H2 hi l w y => ?_⟩
  · exact ⟨us, ws, hs F1 H1 l, hs2 F1 H1 l, by omega⟩
  · exact ⟨us, ws, hs F1 H1 l, hs2 F1 H1 l, by omega⟩
  · have hi1 : i < xs.length := by omega
    have hi2 : i < ys.length := by omega
    obtain ⟨u, hu, ru⟩ := rl.get (List.getElem?_eq_getElem hi1)
    obtain ⟨u2, hu2, ru2⟩ := rl2.get (List.getElem?_eq_getElem hi2)
    obtain ⟨T, x, x2, rfl, hT, rfl, hx, hx2⟩ := y
    have e := hx us (hs F1 H1 l)
    rw [hu] at e
    cases e
    have e := hx2 ws (hs2 F1 H1 l)
    rw [hu2] at e
    cases e
    obtain ⟨r2, w2, e2, s2⟩ := new_pair w hT (ru.lat l) (ru2.lat l)
    exact ⟨_, _, zipD_get xs ys i (List.getElem?_eq_getElem hi1) (List.getElem?_eq_getElem hi2), r2, w2, e2, s2⟩
end

/-- what an iterable's reading asks -/
def pI (K : PySem.W.Frag) (cl : Nat → Addr) (F : Addr → Prop) (H : Hp) (n : Addr → Nat) (σ : L2.St) (Rq : It → Hp → Prop) : List D → Env → Prop := fun xs ρ' =>
  ∀ (J : It) (F' : Addr → Prop) (H' : Hp) (n' : Addr → Nat), WalkD K cl J xs F' H' → SL K cl F' H' ρ' σ n' → WF F' H' n' → Ext F H n F' H' n' → Rq J H'
def tI (K : PySem.W.Frag) (cl : Nat → Addr) (W : WX) (d : M (List D)) : TI := fun σ H Rq => ∃ (F : Addr → Prop) (ρ : Env) (n : Addr → Nat), SL K cl F H ρ σ n ∧ WF F H n ∧ Mt K cl W F H n σ (d ρ) (pI K cl F H n σ Rq)
def DI (C : Cf) (tg e : Expr) (d : M (List D)) : Prop := PI C.X tg e (tI C.X.K C.cl C.W d)
theorem pI.step {K : PySem.W.Frag} {cl : Nat → Addr} {F F' : Addr → Prop} {H H' : Hp} {n n' : Addr → Nat} {σ : L2.St} {Rq : It → Hp → Prop} {xs : List D} {ρ : Env} (w : WF F H n) (e : Ext F H n F' H' n') (h : pI K cl F H n σ Rq xs ρ) : pI K cl F' H' n' σ Rq xs ρ :=
  fun J F2 H2 n2 k s wf ex => h J F2 H2 n2 k s wf (e.trans w ex)
def seqD : D → Option (List D)
  | .tup xs => some xs
  | .lst xs => some xs
  | .lsr xs => some xs
  | _ => none
/-- a text's signs, too -/
def itemsD : D → Option (List D)
  | .tup xs => some xs
  | .lst xs => some xs
  | .lsr xs => some xs
  | .str z => some (z.cps.toList.map fun c => .str ⟨#[c]⟩)
  | _ => none
theorem seqD_or {x : D} {xs : List D} (h : seqD x = some xs) : x = .tup xs ∨ x = .lst xs ∨ x = .lsr xs := by
  cases x with
  | tup ys => cases h; exact .inl rfl
  | lst ys => cases h; exact .inr (.inl rfl)
  | lsr ys => cases h; exact .inr (.inr rfl)
  | _ => cases h
section
variable {C : Cf} {tg e e2 : Expr} {d : M D} {p pos tpos : Pos}
def its (d : M D) : M (List D) := bnd d fun x => lift (itemsD x)
theorem i_seq (h : DE C e d) : DI C tg e (its d) := by
  refine ⟨fun pins s σ H Rq I ⟨F, ρ, n, sl, wf, q⟩ => ?_⟩
  refine thn (h.run pins s σ H (fun x H1 => (∃ (k : Bool) (a : Addr) (us : List V), x = .ref a ∧ SqK C.X.K k H1 a us ∧ Rq (itOf C.X.K k a) H1) ∨ ∃ z, x = .str z ∧ Rq (Its z) H1) I ⟨F, ρ, n, sl, wf, q.bnd.imp fun x ρ1 q => ?_⟩) fun v s1 ⟨x, H1, I1, r1, q1⟩ => ?_
  · obtain ⟨xs, ex, q⟩ := Mt_lift q
    intro v F1 H1 n1 rx sl1 wf1 ex1
    have key : (x = .tup xs ∨ x = .lst xs ∨ x = .lsr xs) → (∃ (k : Bool) (a : Addr) (us : List V), v = .ref a ∧ SqK C.X.K k H1 a us ∧ Rq (itOf C.X.K k a) H1) := fun e => by
      obtain ⟨k, a, us, rfl, hs, rl⟩ := R.seq rx e
      exact ⟨k, a, us, rfl, hs F1 H1 ⟨fun _ h => h, fun _ _ => rfl⟩, q _ F1 H1 n1 (walkD_seq hs rl) sl1 wf1 ex1⟩
    cases x with
    | tup ys => cases ex; exact .inl (key (.inl rfl))
    | lst ys => cases ex; exact .inl (key (.inr (.inl rfl)))
    | lsr ys => cases ex; exact .inl (key (.inr (.inr rfl)))
    | str z => cases ex; cases rx; exact .inr ⟨z, rfl, q _ F1 H1 n1 walkD_str sl1 wf1 ex1⟩
    | _ => cases ex
  · rcases q1 with ⟨k, a, us, rfl, hs, q1⟩ | ⟨z, rfl, q1⟩
    · cases r1
      cases k with
      | false =>
        obtain ⟨its, rv, pl, hz⟩ := I1.list hs
        exact wpAny_pyIter_list pl.isList (pi_one (tk := s1.toks) I1 _ (turn_list a _) ⟨_, Heap.get?_push_size _ rfl, rfl, rfl⟩ q1)
      | true =>
        obtain ⟨its, rv, pl, hz⟩ := I1.tuple hs
        exact wpAny_pyIter_tuple pl (pi_one (tk := s1.toks) I1 _ (turn_tuple a _) ⟨_, Heap.get?_push_size _ rfl, rfl, rfl⟩ q1)
    · obtain ⟨t, rfl⟩ := r1
      cases ha : z.cps.all (· < 128)
      · exact wpAny_pyIter_wide ha (pi_one (tk := s1.toks) I1 _ (turn_str _ z t "str_iterator" (.inr rfl)) ⟨_, Heap.get?_push_size _ rfl, rfl, rfl⟩ q1)
      · exact wpAny_pyIter_ascii ha (pi_one (tk := s1.toks) I1 _ (turn_str _ z t "str_ascii_iterator" (.inl rfl)) ⟨_, Heap.get?_push_size _ rfl, rfl, rfl⟩ q1)
theorem PI.imp {X : Cx} {t t' : TI} (h : PI X tg e t) (i : ∀ σ H Q, t' σ H Q → t σ H Q) : PI X tg e t' := ⟨fun pins s σ H Q I q => h.run pins s σ H Q I (i σ H Q q)⟩
/-- range(n) -/
def rngD (lo hi : Int) : List D := (List.range (hi - lo).toNat).map fun i => .int (lo + (i : Nat))
def okR (i : Int) : Prop := -(2 ^ 62) ≤ i ∧ i < 2 ^ 62
instance (i : Int) : Decidable (okR i) := by unfold okR; infer_instance
def rng1 : List D → Option (List D)
  | [.int j] => if okR j then some (rngD 0 j) else none
  | _ => none
def rng2 : List D → Option (List D)
  | [.int i, .int j] => if okR i ∧ okR j then some (rngD i j) else none
  | _ => none
def icl (g : List D → Option (List D)) (a : M (List D)) : M (List D) := bnd a fun x => lift (g x)
theorem i_range1 {da : M (List D)} (hg : Gl C.X "range") (hm : C.X.mg "range" = none) (ha : DA C [e] da) (hs : starEach [e] C.X.env = [(false, eval e C.X.env)] := by rfl) : DI C tg (.Call (.Name "range" p) [e] [] pos) (icl rng1 da) := by
  refine PI.imp (pi_range1 hg hm ha hs) fun σ H Rq ⟨F, ρ, n, sl, wf, q⟩ => ⟨F, ρ, n, sl, wf, q.bnd.imp fun xs ρ1 q => ?_⟩
  obtain ⟨ys, ex, q⟩ := Mt_lift q
  intro vs F1 H1 n1 rs sl1 wf1 ex1
  unfold rng1 at ex
  split at ex
  · rename_i j
    split at ex
    · rename_i ok
      cases ex
      obtain ⟨v, rfl, rv⟩ := rs.one
      cases rv
      have w : WalkD C.X.K C.cl (Itr 0 j.toNat) (rngD 0 j) F1 H1 := by
        unfold rngD
        rw [Int.sub_zero]
        exact walkD_range
      exact ⟨j, rfl, ok.1, ok.2, q _ F1 H1 n1 w sl1 wf1 ex1⟩
    · cases ex
  · cases ex
theorem i_range2 {da : M (List D)} (hg : Gl C.X "range") (hm : C.X.mg "range" = none) (ha : DA C [e, e2] da) (hs : starEach [e, e2] C.X.env = [(false, eval e C.X.env), (false, eval e2 C.X.env)] := by rfl) (hs2 : starEach [e2] C.X.env = [(false, eval e2 C.X.env)] := by rfl) :
    DI C tg (.Call (.Name "range" p) [e, e2] [] pos) (icl rng2 da) := by
  refine PI.imp (pi_range2 hg hm ha hs hs2) fun σ H Rq ⟨F, ρ, n, sl, wf, q⟩ => ⟨F, ρ, n, sl, wf, q.bnd.imp fun xs ρ1 q => ?_⟩
  obtain ⟨ys, ex, q⟩ := Mt_lift q
  intro vs F1 H1 n1 rs sl1 wf1 ex1
  unfold rng2 at ex
  split at ex
  · rename_i i j
    split at ex
    · rename_i ok
      cases ex
      obtain ⟨v, u, rfl, rv, ru⟩ := rs.two
      cases rv
      cases ru
      exact ⟨i, j, rfl, ⟨ok.1.1, ok.1.2, ok.2.1, ok.2.2⟩, q _ F1 H1 n1 walkD_range sl1 wf1 ex1⟩
    · cases ex
  · cases ex
def enu : List D → Option (List D)
  | [x] => (seqD x).map (enumD 0)
  | _ => none
theorem i_enum {da : M (List D)} {elts : List Expr} {kk : Nat} (hg : Gl C.X "enumerate") (hm : C.X.mg "enumerate" = none) (ha : DA C [e] da) (hs : starEach [e] C.X.env = [(false, eval e C.X.env)] := by rfl) :
    DI C (.Tuple elts kk tpos) (.Call (.Name "enumerate" p) [e] [] pos) (icl enu da) := by
  refine ⟨fun pins s σ H Rq I ⟨F, ρ, n, sl, wf, q⟩ => ?_⟩
  refine Call_ (ld_blt I hg hm boot_enumerate (PyProof.Rows.callWith_type1 (thn (ha.run pos pins s σ H (fun vs H1 => ∃ (k : Bool) (a : Addr) (us : List V), vs = [.ref a] ∧ SqK C.X.K k H1 a us ∧ Rq (IteK C.X.K k a) H1) I ⟨F, ρ, n, sl, wf, q.bnd.imp fun xs ρ1 q => ?_⟩) fun us s1 ⟨vs, H1, I1, r1, k, a, ws, ev, hq, q1⟩ => ?_) hs rfl))
  · obtain ⟨ys, ex, q⟩ := Mt_lift q
    intro vs F1 H1 n1 rs sl1 wf1 ex1
    unfold enu at ex
    split at ex
    · rename_i x
      cases hx : seqD x with
      | none => rw [hx] at ex; cases ex
      | some zs =>
        rw [hx] at ex
        cases ex
        obtain ⟨v, rfl, rv⟩ := rs.one
        obtain ⟨k, a, us, rfl, h1, rl⟩ := R.seq rv (seqD_or hx)
        exact ⟨k, a, us, rfl, h1 F1 H1 ⟨fun _ h => h, fun _ _ => rfl⟩, q _ F1 H1 n1 (walkD_enum h1 rl) sl1 wf1 ex1⟩
    · cases ex
  · subst ev
    cases r1 with
    | cons ra rr =>
      cases rr
      cases ra
      obtain ⟨its, rv, pq, hz⟩ := seqK I1 hq
      refine enum1_begins (beginsK a its.toArray) pq fun h' he hit hk => wpAny_pyIter_enum he ?_
      have I2 : L2.Inv C.X pins σ H1 { s1 with heap := h' } := I1.kept (t' := s1.toks) hk
      refine ⟨s1.heap.objs.size + 1, [s1.heap.objs.size + 1, s1.heap.objs.size], _, _, H1, rfl, I2, turn_enumK k a (s1.heap.objs.size + 1) s1.heap.objs.size, ⟨⟨.none, he⟩, itObj_is hit, Nat.succ_ne_self _⟩, fun b hb => ?_, q1⟩
      have hle : s1.heap.objs.size ≤ b := by
        rcases List.mem_cons.mp hb with z | z
        · rw [z]; exact Nat.le_add_right _ _
        · rw [List.mem_singleton.mp z]; exact Nat.le_refl _
      exact I1.fpOk hle (I1.hok.fresh hle)
def zpp : List D → Option (List D)
  | [x, y] => match seqD x, seqD y with
    | some xs, some ys => some (zipD xs ys)
    | _, _ => none
  | _ => none
theorem i_zip {da : M (List D)} {elts : List Expr} {kk : Nat} (hg : Gl C.X "zip") (hm : C.X.mg "zip" = none) (ha : DA C [e, e2] da) (hs : starEach [e, e2] C.X.env = (false, eval e C.X.env) :: starEach [e2] C.X.env := by rfl) (hpl : (backTo pos (starEach [e2] C.X.env)).any (·.1) = false := by rfl) :
    DI C (.Tuple elts kk tpos) (.Call (.Name "zip" p) [e, e2] [] pos) (icl zpp da) := by
  refine ⟨fun pins s σ H Rq I ⟨F, ρ, n, sl, wf, q⟩ => ?_⟩
  refine Call_ (ld_blt I hg hm boot_zip (PyProof.Rows.callWith_type1 (thn (ha.run pos pins s σ H (fun vs H1 => ∃ (k k2 : Bool) (a b : Addr) (us ws : List V), vs = [.ref a, .ref b] ∧ SqK C.X.K k H1 a us ∧ SqK C.X.K k2 H1 b ws ∧ Rq (ItzK C.X.K k k2 a b) H1) I ⟨F, ρ, n, sl, wf, q.bnd.imp fun xs ρ1 q => ?_⟩) fun us s1 ⟨vs, H1, I1, r1, k, k2, a, b, ws, ws2, ev, hq, hq2, q1⟩ => ?_) hs hpl))
  · obtain ⟨ys, ex, q⟩ := Mt_lift q
    intro vs F1 H1 n1 rs sl1 wf1 ex1
    unfold zpp at ex
    split at ex
    · rename_i x y
      cases hx : seqD x with
      | none => rw [hx] at ex; cases ex
      | some zs =>
        cases hy : seqD y with
        | none => rw [hx, hy] at ex; cases ex
        | some zs2 =>
          rw [hx, hy] at ex
          cases ex
          obtain ⟨v, u, rfl, rv, ru⟩ := rs.two
          obtain ⟨k, a, us, rfl, h1, rl⟩ := R.seq rv (seqD_or hx)
          obtain ⟨k2, b, us2, rfl, h2, rl2⟩ := R.seq ru (seqD_or hy)
          have l0 : Lat F1 H1 F1 H1 := ⟨fun _ h => h, fun _ _ => rfl⟩
          exact ⟨k, k2, a, b, us, us2, rfl, h1 F1 H1 l0, h2 F1 H1 l0, q _ F1 H1 n1 (walkD_zip h1 rl h2 rl2) sl1 wf1 ex1⟩
    · cases ex
  · subst ev
    cases r1 with
    | cons ra rr =>
      cases rr with
      | cons rb rr =>
        cases rr
        cases ra
        cases rb
        obtain ⟨its, rv, pq, _⟩ := seqK I1 hq
        obtain ⟨its2, rv2, pq2, _⟩ := seqK I1 hq2
        have la : a < s1.heap.objs.size := by obtain ⟨o, eo, _⟩ := pq.cls; exact Heap.lt_size eo
        have lb : b < s1.heap.objs.size := by obtain ⟨o, eo, _⟩ := pq2.cls; exact Heap.lt_size eo
        refine zip_begins2 (beginsK a its.toArray) (beginsK b its2.toArray) pq pq2 fun h' hz hTI hTO h1 h2 hsz hk => wpAny_pyIter_zip hz ?_
        have I2 : L2.Inv C.X pins σ H1 { s1 with heap := h' } := I1.kept (t' := s1.toks) hk
        have S := zip_sep2 (N := s1.heap.objs.size) (fp1 := [a]) (fp2 := [b]) (fun c hc => by rw [List.mem_singleton.mp hc]; exact la) (fun c hc => by rw [List.mem_singleton.mp hc]; exact lb)
        refine ⟨s1.heap.objs.size + 4, [s1.heap.objs.size + 4, s1.heap.objs.size + 2, s1.heap.objs.size + 3, s1.heap.objs.size, s1.heap.objs.size + 1], _, _, H1, rfl, I2, turn_zipK k k2 S, ⟨hz, hTI, ⟨_, _, hTO⟩, itObj_is h1, itObj_is h2⟩, fun c hcm => ?_, q1⟩
        have hle : s1.heap.objs.size ≤ c := by
          have e' : c = s1.heap.objs.size + 4 ∨ c = s1.heap.objs.size + 2 ∨ c = s1.heap.objs.size + 3 ∨ c = s1.heap.objs.size ∨ c = s1.heap.objs.size + 1 := by simpa using hcm
          rcases e' with z | z | z | z | z <;> rw [z] <;> first | exact Nat.le_add_right _ _ | exact Nat.le_refl _
        exact I1.fpOk hle (I1.hok.fresh hle)
end
end KR

set_option Elab.async false
set_option linter.all false
set_option maxRecDepth 100000
set_option maxHeartbeats 2000000
/-! Rules: statements. -/
namespace KR
open PySem L2 PyProof.Rows

section
variable {K : PySem.W.Frag} {cl : Nat → Addr} {W : WX} {F F' : Addr → Prop} {H H' : Hp} {n n' m : Addr → Nat} {σ σ' : L2.St} {ρ : Env} {lk : List Nat} {D : Ends}
theorem Lk.trans {σ1 σ2 σ3 : L2.St} (a : Lk lk σ1 σ2) (b : Lk lk σ2 σ3) : Lk lk σ1 σ3 := fun i hi => (b i hi).trans (a i hi)
theorem pN.step {Q : L2.St → Hp → Prop} (w : WF F H n) (e : Ext F H n F' H' n') (l : Lk lk σ σ') (h : pN K cl F H n lk σ Q ρ) : pN K cl F' H' n' lk σ' Q ρ := fun σ2 F2 H2 n2 s wf ex lk2 => h σ2 F2 H2 n2 s wf (e.trans w ex) (l.trans lk2)
theorem pR.step {Q : VK} {x : RV} (w : WF F H n) (e : Ext F H n F' H' n') (l : Lk lk σ σ') (h : pR K cl F H n lk σ Q x ρ) : pR K cl F' H' n' lk σ' Q x ρ := fun v σ2 F2 H2 m n2 r s wf ex lk2 => h v σ2 F2 H2 m n2 r s wf (e.trans w ex) (l.trans lk2)
theorem pX.step {x : XV} (w : WF F H n) (e : Ext F H n F' H' n') (l : Lk lk σ σ') (h : pX K cl W F H n lk σ x ρ) : pX K cl W F' H' n' lk σ' x ρ := fun c dx σ2 F2 H2 n2 r s wf ex lk2 => h c dx σ2 F2 H2 n2 r s wf (e.trans w ex) (l.trans lk2)
theorem Ms.step {o : Option (Except XV Fl × Env)} (w : WF F H n) (e : Ext F H n F' H' n') (l : Lk lk σ σ') (h : Ms K cl W F H n lk σ D o) : Ms K cl W F' H' n' lk σ' D o := by
  unfold Ms at h ⊢
  split at h
  · exact h
  · exact h.step w e l
  · exact h.step w e l
  · exact h.step w e l
  · exact h.step w e l
  · exact h.step w e l
theorem Lk.refl : Lk lk σ σ := fun _ _ => rfl
/-- an expression's exception is the statement's -/
theorem pX.of {x : XV} (h : pX K cl W F H n lk σ x ρ) : tX K cl W F H n σ x ρ := fun c dx F' H' n' r s w e => h c dx σ F' H' n' r s w e Lk.refl
/-- from an expression to what follows it -/
def sbnd {α : Type} (x : M α) (f : α → S) : S := fun lk ρ =>
  match x ρ with
  | none => none
  | some (.error e, ρ') => some (.error e, ρ')
  | some (.ok a, ρ') => f a lk ρ'
theorem Ms.bnd {α : Type} {d : M α} {f : α → S} (h : Ms K cl W F H n lk σ D (sbnd d f lk ρ)) : Mt K cl W F H n σ (d ρ) fun a ρ' => Ms K cl W F H n lk σ D (f a lk ρ') := by
  unfold sbnd at h
  unfold Mt
  cases e : d ρ with
  | none => rw [e] at h; exact h
  | some p =>
    obtain ⟨r, ρ'⟩ := p
    rw [e] at h
    cases r with
    | error x => exact pX.of h
    | ok a => exact h
/-- a name gets a value -/
theorem put_ok {F0 : Addr → Prop} {H0 : Hp} {n0 : Addr → Nat} {σ0 : L2.St} {Q : L2.St → Hp → Prop} {i : Nat} {r : RV} {v : V} (q : pN K cl F0 H0 n0 lk σ0 Q (ρ.set i (some r))) (ro : RO K cl F H r v m) (sl : SL K cl F H ρ σ n)
    (wf : WF F H (fun a => m a + n a)) (ex : Ext F0 H0 n0 F H (fun a => m a + n a)) (l : Lk lk σ0 σ) (hi : i < ρ.length) (hk : i ∉ lk) : Q (σ.set i (some v)) H := by
  obtain ⟨n2, h2, put⟩ := SL.put sl hi
  have s2 := put (r' := some r) (s' := some v) (m := m) ⟨v, rfl, ro⟩
  refine q _ F H _ s2 (wf.sub fun a => by have := h2 a; omega) (ex.sub fun a => by have := h2 a; omega) fun j hj => ?_
  have hne : i ≠ j := fun e => hk (e ▸ hj)
  rw [List.getElem?_set_ne hne]
  exact l j hj
end

/-! ### blocks, small statements -/
def skip : S := fun _ ρ => some (.ok .nx, ρ)
def seq (a b : S) : S := fun lk ρ =>
  match a lk ρ with
  | some (.ok .nx, ρ') => b lk ρ'
  | o => o
def fl (f : Fl) : S := fun _ ρ => some (.ok f, ρ)
def sput (i : Nat) (r : RV) : S := fun lk ρ => if i < ρ.length ∧ i ∉ lk then some (.ok .nx, ρ.set i (some r)) else none
def sset (i : Nat) (d : M RV) : S := sbnd d fun r => sput i r
def sret (d : M RV) : S := sbnd d fun r => fl (.ret r)
def sif (t : M Bool) (a b : S) : S := sbnd t fun k => if k = true then a else b
def sdo {α : Type} (d : M α) : S := sbnd d fun _ => skip
section
variable {C : Cf} {lk : List Nat} {st : Stmt} {rest : List Stmt} {e : Expr} {pos pos' : Pos} {a b : S}
theorem b_nil : DB C lk [] skip := PSs.imp pss_nil fun D σ H ⟨F, ρ, n, sl, wf, q⟩ => q σ F H n sl wf Ext.refl Lk.refl
theorem seq_imp {t : TS} (hb : ∀ D σ H, tS C.X.K C.cl C.W lk b D σ H → t D σ H) : ∀ D σ H, tS C.X.K C.cl C.W lk (seq a b) D σ H → tS C.X.K C.cl C.W lk a { D with nx := t D } σ H := by
  intro D σ H ⟨F, ρ, n, sl, wf, q⟩
  refine ⟨F, ρ, n, sl, wf, ?_⟩
  unfold seq at q
  unfold Ms
  cases h : a lk ρ with
  | none => rw [h] at q; exact q
  | some p =>
    obtain ⟨r, ρ'⟩ := p
    rw [h] at q
    cases r with
    | error x => exact q
    | ok f =>
      cases f with
      | nx => exact fun σ' F' H' n' s w e l => hb D σ' H' ⟨F', ρ', n', s, w, Ms.step wf e l q⟩
      | bk => exact q
      | ct => exact q
      | ret x => exact q
theorem b_cons (h : DS C lk st a) (hr : DB C lk rest b) : DB C lk (st :: rest) (seq a b) := PSs.imp (pss_cons h hr) (seq_imp fun D σ H q => q)
theorem b_one (h : DS C lk st a) : DB C lk [st] a := pss_one h
theorem s_pass : DS C lk (.Pass pos) skip := PS.imp ps_pass fun D σ H ⟨F, ρ, n, sl, wf, q⟩ => q σ F H n sl wf Ext.refl Lk.refl
theorem s_break : DS C lk (.Break pos) (fl .bk) := PS.imp ps_break fun D σ H ⟨F, ρ, n, sl, wf, q⟩ => q σ F H n sl wf Ext.refl Lk.refl
theorem s_cont : DS C lk (.Continue pos) (fl .ct) := PS.imp ps_continue fun D σ H ⟨F, ρ, n, sl, wf, q⟩ => q σ F H n sl wf Ext.refl Lk.refl
theorem s_doc {x j} : DS C lk (.Expr (.Constant (.str x) j pos) pos') skip := PS.imp ps_doc fun D σ H ⟨F, ρ, n, sl, wf, q⟩ => q σ F H n sl wf Ext.refl Lk.refl
theorem s_ret {d : M RV} (h : DO C e d) : DS C lk (.Return (some e) pos) (sret d) := by
  refine PS.imp (ps_ret h) fun D σ H ⟨F, ρ, n, sl, wf, q⟩ => ⟨F, ρ, n, sl, wf, q.bnd.imp fun r ρ1 q => ?_⟩
  intro v F1 H1 m n1 ro sl1 wf1 ex1
  exact q v σ F1 H1 m n1 ro sl1 wf1 ex1 Lk.refl
theorem s_retN : DS C lk (.Return none pos) (sret (ret (.val .non))) := by
  refine PS.imp ps_retN fun D σ H ⟨F, ρ, n, sl, wf, q⟩ => ?_
  have q : pR C.X.K C.cl F H n lk σ D.rt (.val .non) ρ := q
  exact q .non σ F H (fun _ => 0) n ⟨rfl, fun _ => rfl⟩ sl (wf.congr fun _ => by show 0 + _ = _; omega) (Ext.refl.congr (fun _ => rfl) fun _ => by show 0 + _ = _; omega) Lk.refl
theorem s_if {c : Expr} {t : M Bool} {x y : List Stmt} (hc : DT C c t) (ha : DB C lk x a) (hb : DB C lk y b) : DS C lk (.If c x y pos) (sif t a b) := by
  refine PS.imp (ps_if hc ha hb) fun D σ H ⟨F, ρ, n, sl, wf, q⟩ => ⟨F, ρ, n, sl, wf, q.bnd.imp fun k ρ1 q => ?_⟩
  intro F1 H1 n1 sl1 wf1 ex1
  cases k with
  | true => exact ⟨F1, ρ1, n1, sl1, wf1, Ms.step wf ex1 Lk.refl q⟩
  | false => exact ⟨F1, ρ1, n1, sl1, wf1, Ms.step wf ex1 Lk.refl q⟩
theorem s_set {i : Nat} {x : Str} {d : M RV} (hi : C.X.N[i]? = some x) (hx : Loc C.X.env.scope x) (he : DO C e d) (hs : swapsWith e (some (.Name x pos')) pos.line C.X.env = pure false := by rfl)
    (hf : C.X.fn x = true ∨ C.X.env.scope.names.lookup x = some .local := by first | exact .inl rfl | exact .inr rfl) : DS C lk (.Assign [.Name x pos'] e pos) (sset i d) := by
  refine PS.imp (ps_set C.nd hi hx he hs hf) fun D σ H ⟨F, ρ, n, sl, wf, q⟩ => ⟨F, ρ, n, sl, wf, q.bnd.imp fun r ρ1 q => ?_⟩
  intro v F1 H1 m n1 ro sl1 wf1 ex1
  unfold sput at q
  split at q
  · rename_i h
    exact put_ok q ro sl1 wf1 ex1 Lk.refl h.1 h.2
  · exact q.elim
theorem s_expr {d : M D} (h : DE C e d) (hs : swapsWith e none pos.line C.X.env = pure false := by rfl) : DS C lk (.Expr e pos) (sdo d) := by
  refine PS.imp (ps_expr h hs) fun D σ H ⟨F, ρ, n, sl, wf, q⟩ => ⟨F, ρ, n, sl, wf, q.bnd.imp fun r ρ1 q => ?_⟩
  intro v F1 H1 n1 ro sl1 wf1 ex1
  exact q σ F1 H1 n1 sl1 wf1 ex1 Lk.refl

/-! ### targets -/
abbrev Gd := D → List Nat → Env → Option Env
abbrev Gds := List D → List Nat → Env → Option Env
def tGt (K : PySem.W.Frag) (cl : Nat → Addr) (lk : List Nat) (g : Gd) : TG := fun v σ H Q => ∃ (F : Addr → Prop) (ρ : Env) (n : Addr → Nat) (x : D) (ρ' : Env), R K cl F H x v ∧ SL K cl F H ρ σ n ∧ WF F H n ∧ g x lk ρ = some ρ' ∧ pN K cl F H n lk σ Q ρ'
def tGts (K : PySem.W.Frag) (cl : Nat → Addr) (lk : List Nat) (g : Gds) : TGs := fun vs σ H Q => ∃ (F : Addr → Prop) (ρ : Env) (n : Addr → Nat) (xs : List D) (ρ' : Env), RL K cl F H xs vs ∧ SL K cl F H ρ σ n ∧ WF F H n ∧ g xs lk ρ = some ρ' ∧ pN K cl F H n lk σ Q ρ'
def DG (C : Cf) (lk : List Nat) (tg : Expr) (g : Gd) : Prop := PG C.X tg (tGt C.X.K C.cl lk g)
def DGs (C : Cf) (lk : List Nat) (tgs : List Expr) (g : Gds) : Prop := PGs C.X tgs (tGts C.X.K C.cl lk g)
theorem PG.imp {X : Cx} {tg : Expr} {t t' : TG} (h : PG X tg t) (i : ∀ v σ H Q, t' v σ H Q → t v σ H Q) : PG X tg t' := ⟨fun pins s σ H v u Q I r q => h.run pins s σ H v u Q I r (i v σ H Q q)⟩
theorem PGs.imp {X : Cx} {tg : List Expr} {t t' : TGs} (h : PGs X tg t) (i : ∀ v σ H Q, t' v σ H Q → t v σ H Q) : PGs X tg t' := ⟨fun pins s σ H v u Q I r q => h.run pins s σ H v u Q I r (i v σ H Q q)⟩
def gnm (i : Nat) : Gd := fun x lk ρ => if i < ρ.length ∧ i ∉ lk then some (ρ.set i (some (.val x))) else none
theorem put_val {K : PySem.W.Frag} {cl : Nat → Addr} {F : Addr → Prop} {H : Hp} {n : Addr → Nat} {σ : L2.St} {ρ : Env} {Q : L2.St → Hp → Prop} {i : Nat} {x : D} {v : V} (q : pN K cl F H n lk σ Q (ρ.set i (some (.val x)))) (r : R K cl F H x v) (sl : SL K cl F H ρ σ n)
    (wf : WF F H n) (hi : i < ρ.length) (hk : i ∉ lk) : Q (σ.set i (some v)) H :=
  put_ok (m := fun _ => 0) q ⟨r, fun _ => rfl⟩ sl (wf.congr fun _ => by show 0 + _ = _; omega) (Ext.refl.congr (fun _ => rfl) fun _ => by show 0 + _ = _; omega) Lk.refl hi hk
theorem g_name {i : Nat} {x : Str} (hi : C.X.N[i]? = some x) (hx : Loc C.X.env.scope x) (hf : C.X.fn x = true ∨ C.X.env.scope.names.lookup x = some .local := by first | exact .inl rfl | exact .inr rfl) : DG C lk (.Name x pos) (gnm i) := by
  refine PG.imp (pg_name C.nd hi hx hf) fun v σ H Q ⟨F, ρ, n, y, ρ', r, sl, wf, e, q⟩ => ?_
  unfold gnm at e
  split at e
  · rename_i h
    cases e
    exact put_val q r sl wf h.1 h.2
  · cases e
def gsn : Gds := fun xs _ ρ => match xs with | [] => some ρ | _ => none
def gsc (g : Gd) (gs : Gds) : Gds := fun xs lk ρ => match xs with
  | [] => none
  | x :: r => match g x lk ρ with
    | none => none
    | some ρ' => gs r lk ρ'
theorem gs_nil : DGs C lk [] gsn := by
  refine PGs.imp pgs_nil fun v σ H Q ⟨F, ρ, n, xs, ρ', r, sl, wf, e, q⟩ => ?_
  unfold gsn at e
  split at e
  · cases e
    exact ⟨r, q σ F H n sl wf Ext.refl Lk.refl⟩
  · cases e
theorem gs_cons {tg : Expr} {tgs : List Expr} {g : Gd} {gs : Gds} (h : DG C lk tg g) (hr : DGs C lk tgs gs) (hs : (assignEach (tg :: tgs) C.X.env).map (·.2) = assign tg C.X.env :: (assignEach tgs C.X.env).map (·.2) := by rfl) : DGs C lk (tg :: tgs) (gsc g gs) := by
  refine PGs.imp (pgs_cons h hr hs) fun vs σ H Q ⟨F, ρ, n, xs, ρ', r, sl, wf, e, q⟩ => ?_
  unfold gsc at e
  split at e
  · cases e
  · rename_i x xr
    obtain ⟨v, us, ev, rx, rs⟩ := r
    cases h1 : g x lk ρ with
    | none => rw [h1] at e; cases e
    | some ρ1 =>
      rw [h1] at e
      refine ⟨v, us, ev, F, ρ, n, x, ρ1, rx, sl, wf, h1, ?_⟩
      intro σ1 F1 H1 n1 sl1 wf1 ex1 l1
      exact ⟨F1, ρ1, n1, xr, ρ', rs.ext wf ex1, sl1, wf1, e, q.step wf ex1 l1⟩
def gtp (k : Nat) (gs : Gds) : Gd := fun x lk ρ => match x with
  | .tup xs => if xs.length = k then gs xs lk ρ else none
  | _ => none
theorem g_tup {tgs : List Expr} {gs : Gds} {kk : Nat} {k : Nat} (h : DGs C lk tgs gs) (hn : (assignEach tgs C.X.env).length = k := by rfl) (hst : (assignEach tgs C.X.env).findIdx? (·.1) = none := by rfl) : DG C lk (.Tuple tgs kk pos) (gtp k gs) := by
  refine PG.imp (pg_tup C.calm h hn hst) fun v σ H Q ⟨F, ρ, n, x, ρ', r, sl, wf, e, q⟩ => ?_
  cases x with
  | tup xs =>
    obtain ⟨a, vs, rfl, ht, rl⟩ := r
    have e : (if xs.length = k then gs xs lk ρ else none) = some ρ' := e
    split at e
    · rename_i hk
      exact ⟨a, vs, rfl, ht.seq, by rw [rl.length]; exact hk, F, ρ, n, xs, ρ', rl, sl, wf, e, q⟩
    · cases e
  | _ => cases e
def sasg (g : Gd) (d : M D) : S := sbnd d fun x => fun lk ρ => (g x lk ρ).map fun ρ' => (.ok .nx, ρ')
theorem s_asg {tg : Expr} {g : Gd} {d : M D} (he : DE C e d) (hg : DG C lk tg g) (hs : swapsWithSole [tg] e pos.line C.X.env = pure false := by rfl) (hw : swappedStores [tg] e C.X.env = pure none := by rfl)
    (h1 : (assignEach [tg] C.X.env).map (·.2) = [assign tg C.X.env] := by rfl) : DS C lk (.Assign [tg] e pos) (sasg g d) := by
  refine PS.imp (ps_asg he hg hs hw h1) fun D σ H ⟨F, ρ, n, sl, wf, q⟩ => ⟨F, ρ, n, sl, wf, q.bnd.imp fun x ρ1 q => ?_⟩
  intro v F1 H1 n1 r sl1 wf1 ex1
  cases h : g x lk ρ1 with
  | none => rw [h] at q; exact q.elim
  | some ρ2 =>
    rw [h] at q
    have q : pN C.X.K C.cl F H n lk σ D.nx ρ2 := q
    exact ⟨F1, ρ1, n1, x, ρ2, r, sl1, wf1, h, q.step wf ex1 Lk.refl⟩
/-- a, b = x, y -/
def spar (i j : Nat) (d : M (List D)) : S := sbnd d fun xs => fun lk ρ => match xs with
  | [x, y] => if i < ρ.length ∧ j < ρ.length ∧ i ∉ lk ∧ j ∉ lk then some (.ok .nx, (ρ.set i (some (.val x))).set j (some (.val y))) else none
  | _ => none
theorem s_par {i j : Nat} {x y : Str} {ea eb : Expr} {da : M (List D)} {px py pt : Pos} {kt k2 pt2} (hi : C.X.N[i]? = some x) (hj : C.X.N[j]? = some y) (hij : i ≠ j)
    (hx : C.X.env.scope.names.lookup x = some .local) (hy : C.X.env.scope.names.lookup y = some .local) (ha : DA C [ea, eb] da)
    (hw : swappedStores [.Tuple [.Name x px, .Name y py] kt pt] (.Tuple [ea, eb] k2 pt2) C.X.env = pure (some [x, y]))
    (hs : swapsWithSole [.Tuple [.Name x px, .Name y py] kt pt] (.Tuple [ea, eb] k2 pt2) pos.line C.X.env = pure false := by rfl) :
    DS C lk (.Assign [.Tuple [.Name x px, .Name y py] kt pt] (.Tuple [ea, eb] k2 pt2) pos) (spar i j da) := by
  refine PS.imp (ps_par C.calm C.nd hi hj hij hx hy ha hw hs) fun D σ H ⟨F, ρ, n, sl, wf, q⟩ => ⟨F, ρ, n, sl, wf, q.bnd.imp fun xs ρ1 q => ?_⟩
  intro vs F1 H1 n1 rs sl1 wf1 ex1
  split at q
  · rename_i x y
    split at q
    · rename_i h
      obtain ⟨v, u, rfl, rv, ru⟩ := rs.two
      refine ⟨v, u, rfl, ?_⟩
      have q : pN C.X.K C.cl F H n lk σ D.nx ((ρ1.set i (some (.val x))).set j (some (.val y))) := q
      refine put_val (Q := fun σ' H' => D.nx (σ'.set j (some u)) H') (ρ := ρ1) (i := i) (x := x) ?_ rv sl1 wf1 h.1 h.2.2.1
      intro σ2 F2 H2 n2 sl2 wf2 ex2 l2
      exact put_val (q.step wf (ex1.trans wf ex2) l2) (ru.ext wf1 ex2) sl2 wf2 (by rw [List.length_set]; exact h.2.1) h.2.2.2
    · exact q.elim
  · exact q.elim
def giadd : D → D → Option D
  | .int a, .int b => some (.int (a + b))
  | _, _ => none
/-- x op= e, ints -/
def gaug (g : D → D → Option D) (i : Nat) (d : M D) : S := fun lk ρ => match ρ[i]? with
  | some (some (.val x)) => (sbnd d fun y => sbnd (lift (g x y)) fun z => sput i (.val z)) lk ρ
  | _ => none
theorem s_aug {i : Nat} {x : Str} {d : M D} (hi : C.X.N[i]? = some x) (hx : Loc C.X.env.scope x) (he : DE C e d) (hf : C.X.fn x = true ∨ C.X.env.scope.names.lookup x = some .local := by first | exact .inl rfl | exact .inr rfl) :
    DS C lk (.AugAssign (.Name x pos') .Add e pos) (gaug giadd i d) := by
  refine PS.imp (ps_aug C.nd hi hx he ip_add hf) fun D σ H ⟨F, ρ, n, sl, wf, q⟩ => ?_
  unfold gaug at q
  split at q
  · rename_i z hz
    obtain ⟨v, n1, n2, ev, ro, hn, _⟩ := SL.get sl hz
    refine ⟨v, ev, F, ρ, n, sl, wf, q.bnd.imp fun y ρ1 q => ?_⟩
    obtain ⟨w, ew, q⟩ := Mt_lift q.bnd
    intro u F1 H1 n1' ru sl1 wf1 ex1
    have rz : R C.X.K C.cl F1 H1 z v := ro.1.ext wf ex1
    unfold giadd at ew
    split at ew
    · cases ew
      cases ru
      cases rz
      refine ⟨_, _, rfl, rfl, ?_⟩
      unfold sput at q
      split at q
      · rename_i h
        exact put_ok (m := fun _ => 0) q ⟨rfl, fun _ => rfl⟩ sl1 (wf1.congr fun _ => by show 0 + _ = _; omega) (ex1.congr (fun _ => rfl) fun _ => by show 0 + _ = _; omega) Lk.refl h.1 h.2
      · exact q.elim
    · cases ew
  · exact q.elim
end
end KR

set_option Elab.async false
set_option linter.all false
set_option maxRecDepth 100000
set_option maxHeartbeats 2000000
/-! Rules: loops, comprehensions, stores. -/
namespace KR
open PySem L2 PyProof.Rows

/-! ### while -/
/-- k turns at most -/
def whileN (t : M Bool) (b : S) : Nat → S
  | 0 => fun _ _ => none
  | k + 1 => sbnd t fun c => if c = true then (fun lk ρ => match b lk ρ with
    | some (.ok .nx, ρ') => whileN t b k lk ρ'
    | some (.ok .ct, ρ') => whileN t b k lk ρ'
    | some (.ok .bk, ρ') => some (.ok .nx, ρ')
    | o => o) else skip
theorem whileN_more (t : M Bool) (b : S) : ∀ (k : Nat) (lk : List Nat) (ρ : Env) (r : Except XV Fl × Env), whileN t b k lk ρ = some r → whileN t b (k + 1) lk ρ = some r
  | 0, _, _, _, h => by cases h
  | k + 1, lk, ρ, r, h => by
    have ih := whileN_more t b k
    have h : sbnd t (fun c => if c = true then (fun lk ρ => match b lk ρ with
      | some (.ok .nx, ρ') => whileN t b k lk ρ'
      | some (.ok .ct, ρ') => whileN t b k lk ρ'
      | some (.ok .bk, ρ') => some (.ok .nx, ρ')
      | o => o) else skip) lk ρ = some r := h
    show sbnd t (fun c => if c = true then (fun lk ρ => match b lk ρ with
      | some (.ok .nx, ρ') => whileN t b (k + 1) lk ρ'
      | some (.ok .ct, ρ') => whileN t b (k + 1) lk ρ'
      | some (.ok .bk, ρ') => some (.ok .nx, ρ')
      | o => o) else skip) lk ρ = some r
    unfold sbnd at h ⊢
    cases e : t ρ with
    | none => rw [e] at h; cases h
    | some p =>
      obtain ⟨x, ρ'⟩ := p
      rw [e] at h
      cases x with
      | error x => exact h
      | ok c =>
        cases c with
        | false => exact h
        | true =>
          simp only [if_true] at h ⊢
          cases e2 : b lk ρ' with
          | none => rw [e2] at h; cases h
          | some p =>
            obtain ⟨y, ρ2⟩ := p
            rw [e2] at h
            cases y with
            | error x => exact h
            | ok f =>
              cases f with
              | nx => exact ih _ _ _ h
              | ct => exact ih _ _ _ h
              | bk => exact h
              | ret v => exact h
open Classical in
/-- as many turns as it takes -/
noncomputable def swhile (t : M Bool) (b : S) : S := fun lk ρ => if h : ∃ k r, whileN t b k lk ρ = some r then some h.choose_spec.choose else none
theorem swhile_spec {t : M Bool} {b : S} {lk : List Nat} {ρ : Env} {r : Except XV Fl × Env} (h : swhile t b lk ρ = some r) : ∃ k, whileN t b k lk ρ = some r := by
  unfold swhile at h
  split at h
  · rename_i hx
    cases h
    exact ⟨_, hx.choose_spec.choose_spec⟩
  · cases h
theorem whileN_add {t : M Bool} {b : S} {lk : List Nat} {ρ : Env} {r : Except XV Fl × Env} {k : Nat} (h : whileN t b k lk ρ = some r) : ∀ j, whileN t b (k + j) lk ρ = some r
  | 0 => h
  | j + 1 => whileN_more t b _ _ _ _ (whileN_add h j)
theorem swhile_of {t : M Bool} {b : S} {lk : List Nat} {ρ : Env} {r : Except XV Fl × Env} {k : Nat} (h : whileN t b k lk ρ = some r) : swhile t b lk ρ = some r := by
  have hx : ∃ k r, whileN t b k lk ρ = some r := ⟨k, r, h⟩
  unfold swhile
  rw [dif_pos hx]
  congr 1
  have h2 := hx.choose_spec.choose_spec
  have a := whileN_add h hx.choose
  have c := whileN_add h2 k
  rw [Nat.add_comm] at c
  rw [a] at c
  exact (Option.some.inj c).symm
section
variable {C : Cf} {lk : List Nat} {pos : Pos} {b : S}
theorem s_while {c : Expr} {body : List Stmt} {t : M Bool} (hc : DT C c t) (hb : DB C lk body b) : DS C lk (.While c body [] pos) (swhile t b) := by
  refine PS.imp (ps_while C.own hc hb) fun D σ H ⟨F, ρ, n, sl, wf, q⟩ => ?_
  cases hr : swhile t b lk ρ with
  | none => rw [hr] at q; exact q.elim
  | some r =>
    obtain ⟨k, hk⟩ := swhile_spec hr
    rw [hr, ← hk] at q
    refine ⟨fun k σ1 H1 => ∃ (F1 : Addr → Prop) (ρ1 : Env) (n1 : Addr → Nat), SL C.X.K C.cl F1 H1 ρ1 σ1 n1 ∧ WF F1 H1 n1 ∧ Ms C.X.K C.cl C.W F1 H1 n1 lk σ1 D (whileN t b k lk ρ1), ⟨k, F, ρ, n, sl, wf, q⟩, ?_⟩
    rintro k σ1 H1 ⟨F1, ρ1, n1, sl1, wf1, q1⟩
    cases k with
    | zero => exact q1.elim
    | succ k =>
      refine ⟨F1, ρ1, n1, sl1, wf1, (Ms.bnd q1).imp fun c ρ2 q2 => ?_⟩
      intro F2 H2 n2 sl2 wf2 ex2
      have q2 := Ms.step wf1 ex2 Lk.refl q2
      cases c with
      | false =>
        rw [if_neg Bool.false_ne_true]
        exact q2 σ1 F2 H2 n2 sl2 wf2 Ext.refl Lk.refl
      | true =>
        rw [if_pos rfl]
        rw [if_pos rfl] at q2
        refine ⟨fun σ' H' => ∃ (F1 : Addr → Prop) (ρ1 : Env) (n1 : Addr → Nat), SL C.X.K C.cl F1 H' ρ1 σ' n1 ∧ WF F1 H' n1 ∧ Ms C.X.K C.cl C.W F1 H' n1 lk σ' D (whileN t b k lk ρ1), fun σ' H' h => ⟨k, Nat.lt_succ_self _, h⟩, F2, ρ2, n2, sl2, wf2, ?_⟩
        unfold Ms
        cases e : b lk ρ2 with
        | none => rw [e] at q2; exact q2.elim
        | some p =>
          obtain ⟨r, ρ3⟩ := p
          rw [e] at q2
          cases r with
          | error x => exact q2
          | ok f =>
            cases f with
            | nx => exact fun σ' F' H' n' s w ex l => ⟨F', ρ3, n', s, w, Ms.step wf2 ex l q2⟩
            | ct => exact fun σ' F' H' n' s w ex l => ⟨F', ρ3, n', s, w, Ms.step wf2 ex l q2⟩
            | bk => exact q2
            | ret v => exact q2

/-! ### for -/
def forL (g : Gd) (b : S) : List D → S
  | [] => skip
  | x :: xs => fun lk ρ => match g x lk ρ with
    | none => none
    | some ρ1 => match b lk ρ1 with
      | some (.ok .nx, ρ') => forL g b xs lk ρ'
      | some (.ok .ct, ρ') => forL g b xs lk ρ'
      | some (.ok .bk, ρ') => some (.ok .nx, ρ')
      | o => o
def sfor (g : Gd) (it : M (List D)) (b : S) : S := sbnd it fun xs => forL g b xs
theorem s_for {tg iter : Expr} {body : List Stmt} {d : M (List D)} {g : Gd} (hi : DI C tg iter d) (hg : DG C lk tg g) (hb : DB C lk body b)
    (hs : ∀ x, foldedSetIterable iter C.X.env x = pure x := by intro _; rfl) : DS C lk (.For tg iter body [] pos) (sfor g d b) := by
  refine PS.imp (ps_for C.own C.calm hi hg hb hs) fun D σ H ⟨F, ρ, n, sl, wf, q⟩ => ⟨F, ρ, n, sl, wf, q.bnd.imp fun xs ρ0 q => ?_⟩
  intro J F0 H0 n0 w0 sl0 wf0 ex0
  have q0 := Ms.step wf ex0 Lk.refl q
  refine ⟨fun i k σ1 H1 => k = xs.length - i ∧ i ≤ xs.length ∧ ∃ (F1 : Addr → Prop) (ρ1 : Env) (n1 : Addr → Nat), Lat F0 H0 F1 H1 ∧ SL C.X.K C.cl F1 H1 ρ1 σ1 n1 ∧ WF F1 H1 n1 ∧ Ms C.X.K C.cl C.W F1 H1 n1 lk σ1 D (forL g b (xs.drop i) lk ρ1),
    ⟨xs.length, rfl, Nat.zero_le _, F0, ρ0, n0, ⟨fun _ h => h, fun _ _ => rfl⟩, sl0, wf0, q0⟩, ?_⟩
  rintro i k σ1 H1 ⟨rfl, hi', F1, ρ1, n1, l1, sl1, wf1, q1⟩
  by_cases hlt : i < xs.length
  · refine .inr ⟨w0.goes i F1 H1 n1 hlt l1 wf1, fun σ' H' => ∃ (F1 : Addr → Prop) (ρ1 : Env) (n1 : Addr → Nat), Lat F0 H0 F1 H' ∧ SL C.X.K C.cl F1 H' ρ1 σ' n1 ∧ WF F1 H' n1 ∧ Ms C.X.K C.cl C.W F1 H' n1 lk σ' D (forL g b (xs.drop (i + 1)) lk ρ1),
      fun σ' H' h => ⟨xs.length - (i + 1), by omega, rfl, hlt, h⟩, fun v H2 y => ?_⟩
    obtain ⟨d, F2, hd, rd, wf2, ex2, sm2⟩ := w0.yields i F1 H1 n1 v H2 hlt l1 wf1 y
    have hdrop : xs.drop i = d :: xs.drop (i + 1) := by
      rw [List.drop_eq_getElem_cons hlt]
      rw [List.getElem?_eq_getElem hlt] at hd
      rw [Option.some.inj hd]
    rw [hdrop] at q1
    have q1 := Ms.step wf1 ex2 Lk.refl q1
    have sl2 : SL C.X.K C.cl F2 H2 ρ1 σ1 n1 := sl1.mono ex2.fz (frame_eq wf1 ex2) fun a ha => by
      cases z : H1 a with
      | none => exact absurd z (wf1.ho a ha)
      | some o => exact sm2 a o z
    unfold forL at q1
    cases e : g d lk ρ1 with
    | none => rw [e] at q1; exact q1.elim
    | some ρ2 =>
      rw [e] at q1
      dsimp only at q1
      refine ⟨F2, ρ1, n1, d, ρ2, rd, sl2, wf2, e, ?_⟩
      intro σ3 F3 H3 n3 sl3 wf3 ex3 lk3
      have lat3 : Lat F0 H0 F3 H3 := by
        have e13 := ex2.trans wf1 ex3
        exact ⟨fun a h => e13.fz a (l1.1 a h), fun a h => (frame_eq wf1 e13 a (l1.1 a h)).trans (l1.2 a h)⟩
      have q3 := Ms.step wf2 ex3 lk3 q1
      refine ⟨F3, ρ2, n3, sl3, wf3, ?_⟩
      unfold Ms
      have key : ∀ {σ4 : L2.St} {F4 : Addr → Prop} {H4 : Hp} {n4 : Addr → Nat}, Ext F3 H3 n3 F4 H4 n4 → Lat F0 H0 F4 H4 := fun ex4 => ⟨fun a h => ex4.fz a (lat3.1 a h), fun a h => (frame_eq wf3 ex4 a (lat3.1 a h)).trans (lat3.2 a h)⟩
      cases e2 : b lk ρ2 with
      | none => rw [e2] at q3; exact q3.elim
      | some p =>
        obtain ⟨r, ρ3⟩ := p
        rw [e2] at q3
        cases r with
        | error x => exact q3
        | ok f =>
          cases f with
          | nx => exact fun σ' F' H' n' s w ex l => ⟨F', ρ3, n', key (σ4 := σ') ex, s, w, Ms.step wf3 ex l q3⟩
          | ct => exact fun σ' F' H' n' s w ex l => ⟨F', ρ3, n', key (σ4 := σ') ex, s, w, Ms.step wf3 ex l q3⟩
          | bk => exact q3
          | ret v => exact q3
  · have e : i = xs.length := by omega
    subst e
    rw [List.drop_length] at q1
    exact .inl ⟨w0.stops F1 H1 n1 l1 wf1, q1 σ1 F1 H1 n1 sl1 wf1 Ext.refl Lk.refl⟩
end
end KR

set_option Elab.async false
set_option linter.all false
set_option maxRecDepth 100000
set_option maxHeartbeats 2000000
/-! Rules: calls of defs, and a def by its body. -/
namespace KR
open PySem L2 PyProof.Rows

/-- a call's argument: what a name owns is lent (.inl: the name's place), all else is data -/
abbrev Ag := Sum Nat D
/-- what all the defs do: arguments to the answer, and the arguments behind -/
abbrev Cl := List RV → Option (Except XV RV × List RV)

section
variable (K : PySem.W.Frag) (cl : Nat → Addr) (F : Addr → Prop) (H : Hp) (σ : L2.St)
def RA : List Ag → List V → Prop
  | [], vs => vs = []
  | .inl i :: as, vs => ∃ v us, vs = v :: us ∧ σ[i]? = some (some v) ∧ RA as us
  | .inr d :: as, vs => ∃ v us, vs = v :: us ∧ R K cl F H d v ∧ RA as us
end
def takeA : List Ag → Env → Option (List RV × Env)
  | [], ρ => some ([], ρ)
  | .inl i :: as, ρ => match ρ[i]? with
    | some (some r) => match takeA as (ρ.set i none) with
      | some (rs, ρ') => some (r :: rs, ρ')
      | none => none
    | _ => none
  | .inr d :: as, ρ => match takeA as ρ with
    | some (rs, ρ') => some (.val d :: rs, ρ')
    | none => none
def putA : List Ag → List RV → Env → Env
  | .inl i :: as, r :: rs, ρ => putA as rs (ρ.set i (some r))
  | .inr _ :: as, _ :: rs, ρ => putA as rs ρ
  | _, _, ρ => ρ
def callD (f : Cl) (as : List Ag) : M RV := fun ρ =>
  match takeA as ρ with
  | none => none
  | some (rs, ρ1) => match f rs with
    | none => none
    | some (x, rs') => if rs'.length = rs.length then some (x, putA as rs' ρ1) else none

section
variable {K : PySem.W.Frag} {cl : Nat → Addr} {F F' : Addr → Prop} {H H' : Hp} {n n' m : Addr → Nat} {σ : L2.St} {ρ : Env}
theorem RA.ext {as : List Ag} : ∀ {vs : List V}, RA K cl F H σ as vs → WF F H n → Ext F H n F' H' n' → RA K cl F' H' σ as vs := by
  induction as with
  | nil => intro vs h _ _; exact h
  | cons a as ih =>
    intro vs h w e
    cases a with
    | inl i => obtain ⟨v, us, e1, e2, h⟩ := h; exact ⟨v, us, e1, e2, ih h w e⟩
    | inr d => obtain ⟨v, us, e1, e2, h⟩ := h; exact ⟨v, us, e1, e2.ext w e, ih h w e⟩
theorem take_ok : ∀ {as : List Ag} {vs : List V} {ρ ρ' : Env} {n : Addr → Nat} {rs : List RV}, RA K cl F H σ as vs → SL K cl F H ρ σ n → takeA as ρ = some (rs, ρ') →
    ∃ m n' : Addr → Nat, ROL K cl F H rs vs m ∧ SL K cl F H ρ' σ n' ∧ ∀ a, n a = m a + n' a
  | [], vs, ρ, ρ', n, rs, h, sl, e => by cases e; exact ⟨fun _ => 0, n, ⟨h, fun _ => rfl⟩, sl, fun a => by show n a = 0 + n a; omega⟩
  | .inl i :: as, vs, ρ, ρ', n, rs, ⟨v, us, e1, e2, h⟩, sl, e => by
    unfold takeA at e
    cases hi : ρ[i]? with
    | none => rw [hi] at e; cases e
    | some o =>
      cases o with
      | none => rw [hi] at e; cases e
      | some r =>
        rw [hi] at e
        dsimp only at e
        cases ht : takeA as (ρ.set i none) with
        | none => rw [ht] at e; cases e
        | some p =>
          obtain ⟨rs2, ρ2⟩ := p
          rw [ht] at e
          cases e
          obtain ⟨w, n1, n2, ew, ro, hn, put⟩ := SL.get sl hi
          rw [e2] at ew
          cases ew
          have s2 := put (F' := F) (H' := H) (r' := none) (s' := some v) (m := fun _ => 0) (fun _ h => h) (fun _ _ => rfl) (fun _ _ => rfl) (fun _ => rfl)
          have hset : σ.set i (some v) = σ := by
            obtain ⟨h1, h2⟩ := List.getElem?_eq_some_iff.mp e2
            rw [← h2]; exact List.set_getElem_self h1
          rw [hset] at s2
          obtain ⟨m, n', rl, s3, h3⟩ := take_ok h s2 ht
          exact ⟨fun a => n1 a + m a, n', ⟨v, us, n1, m, e1, ro, rl, fun _ => rfl⟩, s3, fun a => by have h4 : 0 + n2 a = m a + n' a := h3 a; have h5 := hn a; show n a = (n1 a + m a) + n' a; omega⟩
  | .inr d :: as, vs, ρ, ρ', n, rs, ⟨v, us, e1, e2, h⟩, sl, e => by
    unfold takeA at e
    cases ht : takeA as ρ with
    | none => rw [ht] at e; cases e
    | some p =>
      obtain ⟨rs2, ρ2⟩ := p
      rw [ht] at e
      cases e
      obtain ⟨m, n', rl, s3, h3⟩ := take_ok h sl ht
      exact ⟨m, n', ⟨v, us, fun _ => 0, m, e1, ⟨e2, fun _ => rfl⟩, rl, fun a => by show m a = 0 + m a; omega⟩, s3, h3⟩
theorem ROL.length : ∀ {rs : List RV} {vs : List V} {n : Addr → Nat}, ROL K cl F H rs vs n → vs.length = rs.length
  | [], _, _, h => by rw [h.1]; rfl
  | _ :: rs, _, _, ⟨_, us, _, _, e, _, h, _⟩ => by rw [e, List.length_cons, List.length_cons, ROL.length h]
theorem put_ok2 {as : List Ag} {vs : List V} {ρ : Env} {n m : Addr → Nat} {rs : List RV} (h : RA K cl F H σ as vs) (sl : SL K cl F H ρ σ n) (rl : ROL K cl F' H' rs vs m) (hf : ∀ a, F a → F' a) (hh : ∀ a, F a → H' a = H a) (hn : ∀ a, n a ≠ 0 → H' a = H a) (hl : ∀ (i : Nat), Sum.inl i ∈ as → i < ρ.length) :
    ∃ n' : Addr → Nat, SL K cl F' H' (putA as rs ρ) σ n' ∧ ∀ a, n' a ≤ m a + n a := by
  have sl' := SL.mono hf hh hn sl
  clear hn sl
  induction as generalizing vs ρ n m rs with
  | nil => exact ⟨n, by cases rs <;> exact sl', fun a => by omega⟩
  | cons a as ih =>
    cases rs with
    | nil =>
      have e := rl.length
      cases a with
      | inl i => obtain ⟨v, us, e1, _⟩ := h; rw [e1] at e; cases e
      | inr d => obtain ⟨v, us, e1, _⟩ := h; rw [e1] at e; cases e
    | cons r rs =>
      obtain ⟨u, us', m1, m2, eu, ro, rl, hm⟩ := rl
      cases a with
      | inl i =>
        obtain ⟨v, us, e1, e2, h⟩ := h
        rw [e1] at eu
        obtain ⟨rfl, rfl⟩ := List.cons.inj eu
        obtain ⟨n2, hn2, put⟩ := SL.put (i := i) sl' (hl i List.mem_cons_self)
        have s2 := put (r' := some r) (s' := some v) (m := m1) ⟨v, rfl, ro⟩
        have hset : σ.set i (some v) = σ := by
          obtain ⟨h1, h2⟩ := List.getElem?_eq_some_iff.mp e2
          rw [← h2]; exact List.set_getElem_self h1
        rw [hset] at s2
        obtain ⟨n', s3, h3⟩ := ih h rl (fun j hj => by rw [List.length_set]; exact hl j (List.mem_cons_of_mem _ hj)) s2
        exact ⟨n', s3, fun a => by have h4 : n' a ≤ m2 a + (m1 a + n2 a) := h3 a; have h5 := hm a; have h6 := hn2 a; omega⟩
      | inr d =>
        obtain ⟨v, us, e1, e2, h⟩ := h
        rw [e1] at eu
        obtain ⟨rfl, rfl⟩ := List.cons.inj eu
        obtain ⟨n', s3, h3⟩ := ih h rl (fun j hj => hl j (List.mem_cons_of_mem _ hj)) sl'
        exact ⟨n', s3, fun a => by have h4 := h3 a; have h5 := hm a; omega⟩
theorem take_lt : ∀ {as : List Ag} {ρ ρ' : Env} {rs : List RV}, takeA as ρ = some (rs, ρ') → ρ'.length = ρ.length ∧ ∀ (i : Nat), Sum.inl i ∈ as → i < ρ.length
  | [], ρ, ρ', rs, e => by cases e; exact ⟨rfl, fun i h => by cases h⟩
  | .inl i :: as, ρ, ρ', rs, e => by
    unfold takeA at e
    cases hi : ρ[i]? with
    | none => rw [hi] at e; cases e
    | some o =>
      cases o with
      | none => rw [hi] at e; cases e
      | some r =>
        rw [hi] at e
        dsimp only at e
        cases ht : takeA as (ρ.set i none) with
        | none => rw [ht] at e; cases e
        | some p =>
          obtain ⟨rs2, ρ2⟩ := p
          rw [ht] at e
          cases e
          obtain ⟨h1, h2⟩ := take_lt ht
          rw [List.length_set] at h1 h2
          refine ⟨h1, fun j hj => ?_⟩
          rcases List.mem_cons.mp hj with z | z
          · cases z; exact (List.getElem?_eq_some_iff.mp hi).1
          · exact h2 j z
  | .inr d :: as, ρ, ρ', rs, e => by
    unfold takeA at e
    cases ht : takeA as ρ with
    | none => rw [ht] at e; cases e
    | some p =>
      obtain ⟨rs2, ρ2⟩ := p
      rw [ht] at e
      cases e
      obtain ⟨h1, h2⟩ := take_lt ht
      refine ⟨h1, fun j hj => ?_⟩
      rcases List.mem_cons.mp hj with z | z
      · cases z
      · exact h2 j z
end

/-- a def's promise, by what it does -/
def spD (K : PySem.W.Frag) (cl : Nat → Addr) (np : Nat) (f : Cl) : Sp := fun vs H Q E => ∃ (F : Addr → Prop) (rs : List RV) (n : Addr → Nat), ROL K cl F H rs vs n ∧ WF F H n ∧ rs.length = np ∧
  match f rs with
  | none => False
  | some (.ok r, rs') => ∀ (v : V) (F' : Addr → Prop) (H' : Hp) (m n' : Addr → Nat), RO K cl F' H' r v m → ROL K cl F' H' rs' vs n' → WF F' H' (fun a => m a + n' a) → Ext F H n F' H' (fun a => m a + n' a) → Q v H'
  | some (.error x, rs') => ∀ (c : Value) (dx : Option Addr) (F' : Addr → Prop) (H' : Hp) (n' : Addr → Nat), RX K cl F' H' x c dx → ROL K cl F' H' rs' vs n' → WF F' H' n' → Ext F H n F' H' n' → E c dx H'

/-- arguments, some lent -/
def pC (K : PySem.W.Frag) (cl : Nat → Addr) (F : Addr → Prop) (H : Hp) (n : Addr → Nat) (σ : L2.St) (Q : List V → Hp → Prop) : List Ag → Env → Prop := fun as ρ' =>
  ∀ (vs : List V) (F' : Addr → Prop) (H' : Hp) (n' : Addr → Nat), RA K cl F' H' σ as vs → SL K cl F' H' ρ' σ n' → WF F' H' n' → Ext F H n F' H' n' → Q vs H'
def tC' (K : PySem.W.Frag) (cl : Nat → Addr) (W : WX) (d : M (List Ag)) : TA := fun σ H Q => ∃ (F : Addr → Prop) (ρ : Env) (n : Addr → Nat), SL K cl F H ρ σ n ∧ WF F H n ∧ Mt K cl W F H n σ (d ρ) (pC K cl F H n σ Q)
def DC (C : Cf) (es : List Expr) (d : M (List Ag)) : Prop := PA C.X es (tC' C.X.K C.cl C.W d)
theorem pC.step {K : PySem.W.Frag} {cl : Nat → Addr} {F F' : Addr → Prop} {H H' : Hp} {n n' : Addr → Nat} {σ : L2.St} {Q : List V → Hp → Prop} {x : List Ag} {ρ' : Env} (w : WF F H n) (e : Ext F H n F' H' n') (h : pC K cl F H n σ Q x ρ') : pC K cl F' H' n' σ Q x ρ' :=
  fun v F2 H2 n2 r s wf ex => h v F2 H2 n2 r s wf (e.trans w ex)
def cval (d : M D) (ds : M (List Ag)) : M (List Ag) := bnd d fun x => bnd ds fun xs => ret (.inr x :: xs)
def clend (i : Nat) (ds : M (List Ag)) : M (List Ag) := fun ρ => match ρ[i]? with
  | some (some _) => (bnd ds fun xs => ret (.inl i :: xs)) ρ
  | _ => none
section
variable {C : Cf} {a : Expr} {da : M D} {pos : Pos} {es : List Expr} {ds : M (List Ag)}
theorem c_nil : DC C [] (ret []) := PA.imp pa_nil fun σ H Q ⟨F, ρ, n, sl, wf, q⟩ => q [] F H n rfl sl wf Ext.refl
theorem c_val (ha : DE C a da) (hr : DC C es ds) (hs : starEach (a :: es) C.X.env = (false, eval a C.X.env) :: starEach es C.X.env := by rfl) : DC C (a :: es) (cval da ds) := by
  refine PA.imp (pa_cons ha hr hs) fun σ H Q ⟨F, ρ, n, sl, wf, q⟩ => ⟨F, ρ, n, sl, wf, q.bnd.imp fun x ρ1 q => ?_⟩
  intro v F1 H1 n1 rx sl1 wf1 ex1
  refine ⟨F1, ρ1, n1, sl1, wf1, q.bnd.step wf ex1 fun xs ρ2 q => ?_⟩
  intro vs F2 H2 n2 rs sl2 wf2 ex2
  exact q (v :: vs) F2 H2 n2 ⟨v, vs, rfl, rx.ext wf1 ex2, rs⟩ sl2 wf2 (ex1.trans wf ex2)
theorem c_lend {i : Nat} (ha : PE C.X a (tVar i)) (hr : DC C es ds) (hs : starEach (a :: es) C.X.env = (false, eval a C.X.env) :: starEach es C.X.env := by rfl) : DC C (a :: es) (clend i ds) := by
  refine PA.imp (pa_cons ha hr hs) fun σ H Q ⟨F, ρ, n, sl, wf, q⟩ => ?_
  unfold clend at q
  split at q
  · rename_i r hi
    obtain ⟨v, n1, n2, ev, _⟩ := SL.get sl hi
    refine ⟨v, ev, F, ρ, n, sl, wf, q.bnd.imp fun xs ρ2 q => ?_⟩
    intro vs F2 H2 n2 rs sl2 wf2 ex2
    exact q (v :: vs) F2 H2 n2 ⟨v, vs, rfl, ev, rs⟩ sl2 wf2 ex2
  · exact q.elim

/-- behind the arguments, the def's own promise -/
theorem call_imp {f : Cl} {np : Nat} {σ : L2.St} {H : Hp} {Q : VK} {vs : List V} {F : Addr → Prop} {n : Addr → Nat} {ρ : Env} {as : List Ag} (q : Mt C.X.K C.cl C.W F H n σ (callD f as ρ) (pO C.X.K C.cl F H n σ Q)) (ra : RA C.X.K C.cl F H σ as vs)
    (sl : SL C.X.K C.cl F H ρ σ n) (wf : WF F H n) (hl : as.length = np) : spD C.X.K C.cl np f vs H Q (fun c d H => C.W c d σ H) := by
  unfold callD at q
  cases ht : takeA as ρ with
  | none => rw [ht] at q; exact q.elim
  | some p =>
    obtain ⟨rs, ρ1⟩ := p
    rw [ht] at q
    dsimp only at q
    obtain ⟨m, n1, rl, s1, hn⟩ := take_ok ra sl ht
    obtain ⟨hlen, hlt⟩ := take_lt ht
    have wm : WF F H (fun a => m a + n1 a) := wf.congr fun a => (hn a).symm
    have w0 : WF F H m := wm.sub fun a => by omega
    have lr : rs.length = np := by
      rw [← rl.length]
      clear q rl ht
      induction as generalizing vs np with
      | nil => rw [show vs = [] from ra]; simpa using hl
      | cons a as ih =>
        cases a with
        | inl i => obtain ⟨v, us, e1, _, h⟩ := ra; rw [e1, List.length_cons]; have := ih (np := as.length) h rfl (fun j hj => hlt j (List.mem_cons_of_mem _ hj)); rw [this, ← hl, List.length_cons]
        | inr d => obtain ⟨v, us, e1, _, h⟩ := ra; rw [e1, List.length_cons]; have := ih (np := as.length) h rfl (fun j hj => hlt j (List.mem_cons_of_mem _ hj)); rw [this, ← hl, List.length_cons]
    refine ⟨F, rs, m, rl, w0, lr, ?_⟩
    cases hf : f rs with
    | none => rw [hf] at q; exact q.elim
    | some p =>
      obtain ⟨x, rs'⟩ := p
      rw [hf] at q
      dsimp only at q
      -- what others own is as it was
      have keep : ∀ {F' : Addr → Prop} {H' : Hp} {k : Addr → Nat}, Ext F H m F' H' k → (∀ a, F a → H' a = H a) ∧ ∀ a, n1 a ≠ 0 → H' a = H a := fun {F' H' k} ex => by
        refine ⟨frame_eq w0 ex, fun a ha => ?_⟩
        have h0 : m a = 0 := by have := wm.le a; omega
        cases z : H a with
        | none => exact absurd z (wm.ho a (by omega))
        | some o => exact ex.frame a o z h0
      have around : ∀ {F' : Addr → Prop} {H' : Hp} {k : Addr → Nat}, Ext F H m F' H' k → WF F' H' k → WF F' H' (fun a => k a + n1 a) ∧ Ext F H n F' H' (fun a => k a + n1 a) := fun {F' H' k} ex w => ⟨wm.more ex w, (ex.more wm).congr (fun a => hn a) fun a => rfl⟩
      by_cases hk : rs'.length = rs.length
      · rw [if_pos hk] at q
        cases x with
        | error x =>
          intro c dx F' H' n' rx rl' w' ex
          obtain ⟨k1, k2⟩ := keep ex
          obtain ⟨n2, s2, h2⟩ := put_ok2 ra s1 rl' ex.fz k1 k2 (fun i hi => by rw [hlen]; exact hlt i hi)
          obtain ⟨w2, e2⟩ := around ex w'
          exact q c dx F' H' n2 rx s2 (w2.sub h2) (e2.sub h2)
        | ok r =>
          intro v F' H' m' n' ro rl' w' ex
          obtain ⟨k1, k2⟩ := keep ex
          obtain ⟨n2, s2, h2⟩ := put_ok2 ra s1 rl' ex.fz k1 k2 (fun i hi => by rw [hlen]; exact hlt i hi)
          obtain ⟨w2, e2⟩ := around ex w'
          have hle : ∀ a, m' a + n2 a ≤ (m' a + n' a) + n1 a := fun a => by have := h2 a; omega
          exact q v F' H' m' n2 ro s2 (w2.sub hle) (e2.sub hle)
      · rw [if_neg hk] at q
        exact q.elim
def ocall (f : Cl) (np : Nat) (das : M (List Ag)) : M RV := bnd das fun as => if as.length = np then callD f as else stuck
theorem ocall_imp {f : Cl} {np : Nat} {σ : L2.St} {H : Hp} {Q : VK} (h : tO C.X.K C.cl C.W (ocall f np ds) σ H Q) : tC' C.X.K C.cl C.W ds σ H (fun vs H1 => spD C.X.K C.cl np f vs H1 Q (fun c d H => C.W c d σ H)) := by
  obtain ⟨F, ρ, n, sl, wf, q⟩ := h
  refine ⟨F, ρ, n, sl, wf, q.bnd.imp fun as ρ1 q => ?_⟩
  intro vs F1 H1 n1 ra sl1 wf1 ex1
  by_cases hl : as.length = np
  · rw [if_pos hl] at q
    exact call_imp (Mt.step wf ex1 q fun a ρ' q => q.step wf ex1) ra sl1 wf1 hl
  · rw [if_neg hl] at q
    exact q.elim
theorem o_call {f : Cl} {ps : List Str} {k np : Nat} {fa : Addr} {fd : FuncData} {x : Str} {p : Pos} (G : FnOk C.X.prog C.X.w C.X.K C.X.mg C.X.base C.CX k fa fd ps (spD C.X.K C.cl np f)) (hr : k ≤ C.k) (hg : Gl C.X x) (hm : C.X.mg x = some (.ref fa))
    (hk : PySem.W.keepIn C.X.K (.ref fa) = true) (hb : Binds C.X.K fd ps []) (ha : DC C (a :: es) ds) (hdb : (x == ("__debug__" : Str)) = false := by decide) (he : starEach (a :: es) C.X.env = (false, eval a C.X.env) :: starEach es C.X.env := by rfl)
    (hpl : (backTo pos (starEach es C.X.env)).any (·.1) = false := by rfl) : DO C (.Call (.Name x p) (a :: es) [] pos) (ocall f np ds) := by
  refine PE.imp (pe_callSD (dvs := []) (ds := []) G (C.room.mono hr) hg hm hk hb .nil C.pass ha hdb he hpl) fun σ H Q h => ?_
  have h2 := ocall_imp h
  show tC' C.X.K C.cl C.W ds σ H _
  obtain ⟨F, ρ, n, sl, wf, q⟩ := h2
  refine ⟨F, ρ, n, sl, wf, q.imp fun as ρ' q => ?_⟩
  intro vs F1 H1 n1 ra sl1 wf1 ex1
  have q2 := q vs F1 H1 n1 ra sl1 wf1 ex1
  rw [List.append_nil]
  exact q2
end

/-! ### a def by its body -/
def isVal : RV → Bool
  | .val _ => true
  | .otup _ => true
  | _ => false
/-- the places of what is lent -/
def lockOf : Nat → List RV → List Nat
  | _, [] => []
  | i, r :: rs => if isVal r = true then lockOf (i + 1) rs else i :: lockOf (i + 1) rs
/-- what is lent, given back -/
def backs : Nat → List RV → Env → Option (List RV)
  | _, [], _ => some []
  | i, r :: rs, ρ => match backs (i + 1) rs ρ with
    | none => none
    | some bs => if isVal r = true then some (r :: bs) else match ρ[i]? with
      | some (some b) => some (b :: bs)
      | _ => none
def runD (np N : Nat) (body : S) : Cl := fun rs =>
  if rs.length = np ∧ np ≤ N then
    match body (lockOf 0 rs) (rs.map some ++ List.replicate (N - np) none) with
    | some (.ok .nx, ρ') => (backs 0 rs ρ').map fun bs => (.ok (.val .non), bs)
    | some (.ok (.ret r), ρ') => (backs 0 rs ρ').map fun bs => (.ok r, bs)
    | some (.error x, ρ') => (backs 0 rs ρ').map fun bs => (.error x, bs)
    | _ => none
  else none
section
variable {K : PySem.W.Frag} {cl : Nat → Addr} {F F' : Addr → Prop} {H H' : Hp} {n n' m : Addr → Nat} {σ : L2.St} {ρ : Env}
theorem start_ok : ∀ {rs : List RV} {vs : List V} {n : Addr → Nat} (k : Nat), ROL K cl F H rs vs n → SL K cl F H (rs.map some ++ List.replicate k none) (vs.map some ++ List.replicate k none) n
  | [], vs, n, k, ⟨e, hz⟩ => by
    rw [e]
    show SL K cl F H (List.replicate k none) (List.replicate k none) n
    induction k with
    | zero => exact ⟨rfl, hz⟩
    | succ k ih => exact ⟨none, _, fun _ => 0, n, rfl, fun _ => rfl, ih, fun a => by show n a = 0 + n a; omega⟩
  | r :: rs, vs, n, k, ⟨v, us, n1, n2, e, ro, rl, hn⟩ => by
    rw [e]
    exact ⟨some v, _, n1, n2, rfl, ⟨v, rfl, ro⟩, start_ok k rl, hn⟩
theorem SL.tail {i : Nat} {N : Addr → Nat} (h : SL K cl F H (ρ.drop i) (σ.drop i) N) : ∃ N1 N2 : Addr → Nat, SL K cl F H (ρ.drop (i + 1)) (σ.drop (i + 1)) N2 ∧ (∀ a, N a = N1 a + N2 a) ∧ ∀ r, ρ[i]? = some (some r) → ∃ v, σ[i]? = some (some v) ∧ RO K cl F H r v N1 := by
  by_cases hi : i < ρ.length
  · have e := List.drop_eq_getElem_cons hi
    rw [e] at h
    obtain ⟨s, us, n1, n2, es, sq, ss, hn⟩ := h
    have e2 : σ.drop (i + 1) = us := by
      rw [← List.drop_drop (i := 1) (j := i), es]
      rfl
    have e3 : σ[i]? = some s := by
      have z : (σ.drop i)[0]? = some s := by rw [es]; rfl
      rw [List.getElem?_drop] at z
      simpa using z
    refine ⟨n1, n2, by rw [e2]; exact ss, hn, fun r hr => ?_⟩
    rw [List.getElem?_eq_getElem hi] at hr
    rw [Option.some.inj hr] at sq
    obtain ⟨v, ev, ro⟩ := sq
    exact ⟨v, by rw [e3, ev], ro⟩
  · have e : ρ.drop i = [] := List.drop_eq_nil_of_le (by omega)
    have e' : ρ.drop (i + 1) = [] := List.drop_eq_nil_of_le (by omega)
    rw [e] at h
    refine ⟨fun _ => 0, N, ?_, fun a => by show N a = 0 + N a; omega, fun r hr => ?_⟩
    · rw [e']
      refine ⟨?_, h.2⟩
      rw [← List.drop_drop (i := 1) (j := i), h.1]
      rfl
    · rw [List.getElem?_eq_none (by omega)] at hr
      cases hr
/-- what was lent lies where it lay -/
theorem backs_ok (hf : ∀ a, F a → F' a) (hh : ∀ a, F a → H' a = H a) : ∀ {rs : List RV} {vs : List V} {n0 : Addr → Nat} {i : Nat} {bs : List RV} {N : Addr → Nat}, ROL K cl F H rs vs n0 → backs i rs ρ = some bs → SL K cl F' H' (ρ.drop i) (σ.drop i) N →
    (∀ (k : Nat) (r : RV) (v : V), rs[k]? = some r → isVal r = false → vs[k]? = some v → σ[i + k]? = some (some v)) → ∃ m : Addr → Nat, ROL K cl F' H' bs vs m ∧ ∀ a, m a ≤ N a
  | [], vs, n0, i, bs, N, h, e, sl, hv => by cases e; exact ⟨fun _ => 0, ⟨h.1, fun _ => rfl⟩, fun _ => Nat.zero_le _⟩
  | r :: rs, vs, n0, i, bs, N, ⟨v, us, n1, n2, ev, ro, rl, hn⟩, e, sl, hv => by
    subst ev
    unfold backs at e
    cases hb : backs (i + 1) rs ρ with
    | none => rw [hb] at e; cases e
    | some bs2 =>
      rw [hb] at e
      dsimp only at e
      obtain ⟨N1, N2, s2, hN, hr⟩ := SL.tail sl
      obtain ⟨m2, rl2, hm2⟩ := backs_ok hf hh (i := i + 1) rl hb s2 (fun k r' v' h1 h2 h3 => by
        have z := hv (k + 1) r' v' (by simpa using h1) h2 (by simpa using h3)
        have e1 : i + (k + 1) = i + 1 + k := by omega
        rw [← e1]; exact z)
      cases hq : isVal r with
      | true =>
        rw [hq, if_pos rfl] at e
        cases e
        cases r with
        | val d => exact ⟨m2, ⟨v, us, fun _ => 0, m2, rfl, ⟨R.mono hf hh d ro.1, fun _ => rfl⟩, rl2, fun a => by show m2 a = 0 + m2 a; omega⟩, fun a => by have := hm2 a; have := hN a; omega⟩
        | otup ds => exact ⟨m2, ⟨v, us, fun _ => 0, m2, rfl, RO.mono hf hh (.otup ds) (fun a z => absurd rfl z) ⟨ro.1, fun _ => rfl⟩, rl2, fun a => by show m2 a = 0 + m2 a; omega⟩, fun a => by have := hm2 a; have := hN a; omega⟩
        | _ => cases hq
      | false =>
        rw [hq, if_neg Bool.false_ne_true] at e
        split at e
        · rename_i b hb2
          cases e
          obtain ⟨v', ev', ro'⟩ := hr b hb2
          have z := hv 0 r v rfl hq rfl
          rw [Nat.add_zero, ev'] at z
          cases z
          exact ⟨fun a => N1 a + m2 a, ⟨v, us, N1, m2, rfl, ro', rl2, fun _ => rfl⟩, fun a => by have := hm2 a; have := hN a; show N1 a + m2 a ≤ N a; omega⟩
        · cases e
theorem lockOf_mem : ∀ {rs : List RV} {i k : Nat} {r : RV}, rs[k]? = some r → isVal r = false → i + k ∈ lockOf i rs
  | [], _, _, _, h, _ => by simp at h
  | r0 :: rs, i, 0, r, h, hq => by
    simp at h
    subst h
    unfold lockOf
    rw [hq, if_neg Bool.false_ne_true]
    exact List.mem_cons_self
  | r0 :: rs, i, k + 1, r, h, hq => by
    have z := lockOf_mem (i := i + 1) (k := k) (by simpa using h) hq
    have e : i + 1 + k = i + (k + 1) := by omega
    rw [e] at z
    unfold lockOf
    split
    · exact z
    · exact List.mem_cons_of_mem _ z
end

section
variable {P : Program} {w : World} {K : PySem.W.Frag} {mg : Str → Option Value} {base : Heap}
/-- the context of a def's body, as a frame of ours -/
def cfOf (cl : Nat → Addr) (k : Nat) (N ps : List Str) (qual : Str) (scope : Scope) (f : Addr) (cd : Value) (A : Around) (outer : List PySem.Env) (s : Shared) (H : Hp) (E : XK) (S : FnScope N ps scope) (hr : Room k (A.deeper (envOfC qual scope s.heap.objs.size f cd))) : Cf where
  X := cxOf (L2.CX P w) P w K mg base N qual scope f cd A outer s H E
  cl := cl
  W := fun c d _ H => E c d H
  k := k
  CX := L2.CX P w
  room := hr
  calm := rfl
  nd := S.nd
  pass := fun σ pins H' s' e s'' I h => passes_call (W := fun c d _ H => E c d H) (takes_of rfl rfl rfl rfl) (fun _ _ _ _ h => h) pins σ H' s' e s'' I h
  cxF := fun outer H s e s' h => by
    obtain ⟨_, _, _, _, _, _, _, _, _, _, _, _, z⟩ := h
    exact z
  own := passes_of rfl
theorem def_ok {cl : Nat → Addr} {x qual : Str} {st : Stmt} {f : Addr} {fd : FuncData} {N ps : List Str} {k : Nat} {body : S} (Fn : Fun K x qual st f fd) (Sc : FnScope N ps (defScope st))
    (hb : ∀ (cd : Value) (A : Around) (outer : List PySem.Env) (s : Shared) (H : Hp) (E : XK) (lk : List Nat) (hr : Room k (A.deeper (envOfC qual (defScope st) s.heap.objs.size f cd))), DB (cfOf (P := P) (w := w) (K := K) (mg := mg) (base := base) cl k N ps qual (defScope st) f cd A outer s H E Sc hr) lk (defBody st) body) :
    FnOk P w K mg base (L2.CX P w) (k + 1) f fd ps (spD K cl ps.length (runD ps.length N.length body)) := by
  refine Fn.okX Sc (fun vs H Q E h => ?_) (fun cd A outer s H vs Q E hr h => ?_)
  · obtain ⟨F, rs, n, rl, _, hl, _⟩ := h
    rw [rl.length, hl]
  · obtain ⟨F, rs, n, rl, wf, hl, q⟩ := h
    refine ⟨_, hb cd A outer s H E (lockOf 0 rs) hr, ?_⟩
    have hvl := rl.length
    unfold runD at q
    by_cases hc : rs.length = ps.length ∧ ps.length ≤ N.length
    · rw [if_pos hc] at q
      have s0 := start_ok (N.length - ps.length) rl
      have e0 : L2.start N vs = vs.map some ++ List.replicate (N.length - ps.length) none := by unfold L2.start; rw [hvl, hl]
      show tS K cl (fun c d _ H => E c d H) (lockOf 0 rs) body _ (L2.start N vs) H
      rw [e0]
      refine ⟨F, _, n, s0, wf, ?_⟩
      have hv : ∀ {σ' : L2.St}, Lk (lockOf 0 rs) (vs.map some ++ List.replicate (N.length - ps.length) none) σ' → ∀ (k : Nat) (r : RV) (v : V), rs[k]? = some r → isVal r = false → vs[k]? = some v → σ'[0 + k]? = some (some v) := fun {σ'} l k r v h1 h2 h3 => by
        rw [l (0 + k) (lockOf_mem h1 h2), Nat.zero_add]
        have hk : k < vs.length := (List.getElem?_eq_some_iff.mp h3).1
        rw [List.getElem?_append_left (by simpa using hk), List.getElem?_map, h3]
        rfl
      unfold Ms
      cases hr2 : body (lockOf 0 rs) (rs.map some ++ List.replicate (N.length - ps.length) none) with
      | none => rw [hr2] at q; exact q.elim
      | some p =>
        obtain ⟨r, ρ'⟩ := p
        rw [hr2] at q
        cases r with
        | error x =>
          dsimp only at q
          cases hb2 : backs 0 rs ρ' with
          | none => rw [hb2] at q; exact q.elim
          | some bs =>
            rw [hb2] at q
            intro c dx σ' F' H' n' rx sl' w' ex l
            obtain ⟨m, rl2, hm⟩ := backs_ok ex.fz (frame_eq wf ex) rl hb2 (by simpa using sl') (hv l)
            exact q c dx F' H' m rx rl2 (w'.sub hm) (ex.sub hm)
        | ok fl =>
          cases fl with
          | nx =>
            dsimp only at q
            cases hb2 : backs 0 rs ρ' with
            | none => rw [hb2] at q; exact q.elim
            | some bs =>
              rw [hb2] at q
              intro σ' F' H' n' sl' w' ex l
              obtain ⟨m, rl2, hm⟩ := backs_ok ex.fz (frame_eq wf ex) rl hb2 (by simpa using sl') (hv l)
              exact q .non F' H' (fun _ => 0) m ⟨rfl, fun _ => rfl⟩ rl2 ((w'.sub hm).congr fun _ => by show 0 + _ = _; omega) ((ex.sub hm).congr (fun _ => rfl) fun _ => by show 0 + _ = _; omega)
          | bk => exact q.elim
          | ct => exact q.elim
          | ret r =>
            dsimp only at q
            cases hb2 : backs 0 rs ρ' with
            | none => rw [hb2] at q; exact q.elim
            | some bs =>
              rw [hb2] at q
              intro v σ' F' H' m n' ro sl' w' ex l
              obtain ⟨m2, rl2, hm⟩ := backs_ok ex.fz (frame_eq (n' := fun a => m a + n' a) wf ex) rl hb2 (by simpa using sl') (hv l)
              have hle : ∀ a, m a + m2 a ≤ m a + n' a := fun a => by have := hm a; omega
              exact q v F' H' m m2 ro rl2 (w'.sub hle) (ex.sub hle)
    · rw [if_neg hc] at q
      exact q.elim
/-- no turn is left -/
theorem none_ok {cl : Nat → Addr} {f : Addr} {fd : FuncData} {ps : List Str} {k : Nat} {CX : CXT} : FnOk P w K mg base CX k f fd ps (spD K cl ps.length fun _ => none) :=
  ⟨fun vs H Q E ⟨_, _, _, _, _, _, q⟩ => q.elim, fun A outer s H args us vs Q E hr e0 hb r ⟨_, _, _, _, _, _, q⟩ => q.elim⟩
end
end KR

set_option Elab.async false
set_option linter.all false
set_option maxRecDepth 100000
set_option maxHeartbeats 2000000
/-! Rules: isinstance, stores into lists, append, list comprehensions, bit_length. -/
namespace KR
open PySem L2 PyProof.Rows

/-! ### isinstance of built-in types -/
inductive Ty where
  | bool | int | str | tuple | list | dict
def Ty.nm : Ty → String
  | .bool => "bool"
  | .int => "int"
  | .str => "str"
  | .tuple => "tuple"
  | .list => "list"
  | .dict => "dict"
def tyD : D → Option String
  | .non => some "NoneType"
  | .bl _ => some "bool"
  | .int _ => some "int"
  | .str _ => some "str"
  | .tup _ => some "tuple"
  | .lst _ => some "list"
  | .lsr _ => some "list"
  | .dct _ _ => some "dict"
  | .ins _ _ _ => none
def gisi (T : Ty) (x : D) : Option D :=
  match x with
  | .non => some (.bl false)
  | .bl _ => some (.bl (match T with | .bool => true | .int => true | _ => false))
  | .int _ => some (.bl (match T with | .int => true | _ => false))
  | .str _ => some (.bl (match T with | .str => true | _ => false))
  | .tup _ => some (.bl (match T with | .tuple => true | _ => false))
  | .lst _ => some (.bl (match T with | .list => true | _ => false))
  | .lsr _ => some (.bl (match T with | .list => true | _ => false))
  | .dct _ _ => some (.bl (match T with | .dict => true | _ => false))
  | .ins _ _ _ => none
theorem gisi_kit {T : Ty} {x z : D} (h : gisi T x = some z) : ∃ t b, tyD x = some t ∧ z = .bl b ∧ kitB t T.nm = some b := by
  cases x with
  | ins _ _ _ => cases h
  | non => cases T <;> cases h <;> exact ⟨_, _, rfl, rfl, by decide +kernel⟩
  | bl _ => cases T <;> cases h <;> exact ⟨_, _, rfl, rfl, by decide +kernel⟩
  | int _ => cases T <;> cases h <;> exact ⟨_, _, rfl, rfl, by decide +kernel⟩
  | str _ => cases T <;> cases h <;> exact ⟨_, _, rfl, rfl, by decide +kernel⟩
  | tup _ => cases T <;> cases h <;> exact ⟨_, _, rfl, rfl, by decide +kernel⟩
  | lst _ => cases T <;> cases h <;> exact ⟨_, _, rfl, rfl, by decide +kernel⟩
  | lsr _ => cases T <;> cases h <;> exact ⟨_, _, rfl, rfl, by decide +kernel⟩
  | dct _ _ => cases T <;> cases h <;> exact ⟨_, _, rfl, rfl, by decide +kernel⟩
theorem tyX_of {K : PySem.W.Frag} {cl : Nat → Addr} {F : Addr → Prop} {H : Hp} {x : D} {v : V} {t : String} (r : R K cl F H x v) (h : tyD x = some t) : TyX K H v (.type t) := by
  cases x with
  | non => cases r; cases h; exact .base .non
  | bl b => cases r; cases h; exact .base (.bl b)
  | int b => cases r; cases h; exact .base (.int b)
  | str b => cases r; cases h; exact .base (.str b)
  | tup xs =>
    obtain ⟨a, vs, rfl, ht, _⟩ := r
    cases h
    rcases ht with ⟨_, h | ⟨o, h⟩⟩ | ⟨o, its, k, h1, h2, _⟩
    · exact .base (.tup h)
    · exact .fTuple h
    · exact .kTuple h1 h2
  | lst xs =>
    obtain ⟨a, vs, rfl, _, ht, _⟩ := r
    cases h
    exact .base (.lst ht)
  | lsr xs =>
    obtain ⟨a, vs, rfl, ht, _⟩ := r
    cases h
    rcases ht with ⟨_, h | ⟨o, h⟩⟩ | ⟨o, its, k, h1, h2, _⟩
    · exact .base (.lst h)
    · exact .base (.frz h)
    · exact .kList h1 h2
  | dct ks ds =>
    obtain ⟨a, kvs, rfl, _, ht, _⟩ := r
    cases h
    exact .base (.dK ht)
  | ins _ _ _ => cases h
section
variable {C : Cf} {e : Expr} {d : M D} {pos p tp : Pos}
theorem e_isi (T : Ty) {x tn : Str} (hx : x = "isinstance") (hg : Gl C.X x) (hm : C.X.mg x = none) (hv : bootBuiltins x = some (.builtin "isinstance")) (he : DE C e d) (hg2 : Gl C.X tn) (hm2 : C.X.mg tn = none) (hv2 : bootBuiltins tn = some (.type T.nm))
    (hs : starEach [e, .Name tn tp] C.X.env = (false, eval e C.X.env) :: starEach [.Name tn tp] C.X.env := by rfl) (hpl : (backTo pos (starEach [.Name tn tp] C.X.env)).any (·.1) = false := by rfl)
    (hs2 : starEach [.Name tn tp] C.X.env = (false, eval (.Name tn tp) C.X.env) :: starEach [] C.X.env := by rfl) (hn : x ≠ "__name__" := by decide) (hdb : (x == ("__debug__" : Str)) = false := by decide) (hn2 : tn ≠ "__name__" := by decide) (hdb2 : (tn == ("__debug__" : Str)) = false := by decide) :
    DE C (.Call (.Name x p) [e, .Name tn tp] [] pos) (una (gisi T) d) := by
  have pe2 : PE C.X (.Name tn tp) (tC (.ty T.nm)) := pe_bltn hg2 hm2 hv2 rfl hn2 hdb2
  refine PE.imp (pe_callB call_isi hg hm hv (pa_cons he (pa_cons pe2 pa_nil hs2) hs) hn hdb hs hpl) fun σ H Q ⟨F, ρ, n, sl, wf, q⟩ => ⟨F, ρ, n, sl, wf, q.bnd.imp fun x ρ1 q => ?_⟩
  obtain ⟨z, ez, q⟩ := Mt_lift q
  intro v F1 H1 n1 rx sl1 wf1 ex1
  obtain ⟨t, b, h1, rfl, h3⟩ := gisi_kit ez
  exact ⟨v, .ty T.nm, .type t, .type T.nm, b, rfl, .ty _, tyX_of rx h1, kit_ty h3, q _ F1 H1 n1 rfl sl1 wf1 ex1⟩
end

/-! ### what a name owns is written -/
section
variable {K : PySem.W.Frag} {cl : Nat → Addr} {F : Addr → Prop} {H : Hp} {n : Addr → Nat} {σ : L2.St} {ρ : Env} {i : Nat}
theorem own_write {r r' : RV} {a : Addr} {o : HO} (sl : SL K cl F H ρ σ n) (wf : WF F H n) (hi : ρ[i]? = some (some r)) (ha : ∀ v n1, RO K cl F H r v n1 → n1 a ≠ 0) (hv : ∃ o, H a = some o)
    (hr : ∀ v n1, RO K cl F H r v n1 → (∀ b, n1 b ≠ 0 → b ≠ a → upd H a o b = H b) → (∀ b, F b → upd H a o b = H b) → RO K cl F (upd H a o) r' v n1) :
    SL K cl F (upd H a o) (ρ.set i (some r')) σ n ∧ WF F (upd H a o) n ∧ Ext F H n F (upd H a o) n := by
  obtain ⟨v, n1, n2, ev, ro, hn, put⟩ := SL.get sl hi
  have h1 := ha v n1 ro
  have hle := wf.le a
  have hna := hn a
  have hf : ∀ b, F b → upd H a o b = H b := fun b hb => upd_ne fun e => wf.nf a (by omega) (e ▸ hb)
  have hset : σ.set i (some v) = σ := by
    obtain ⟨q1, q2⟩ := List.getElem?_eq_some_iff.mp ev
    rw [← q2]; exact List.set_getElem_self q1
  have s2 := put (F' := F) (H' := upd H a o) (r' := some r') (s' := some v) (m := n1) (fun _ h => h) hf (fun b hb => upd_ne fun e => by rw [e] at hb; omega) ⟨v, rfl, hr v n1 ro (fun b _ hb => upd_ne hb) hf⟩
  rw [hset] at s2
  have hn' : (fun a => n1 a + n2 a) = n := funext fun b => (hn b).symm
  rw [hn'] at s2
  refine ⟨s2, ⟨wf.le, wf.nf, fun b hb => ?_, fun b hb => by rw [hf b hb]; exact wf.hf b hb⟩, ⟨fun b u hu hb => ?_, fun b hb => ?_, fun _ h => h, fun b hb => .inl hb, fun b hb => .inl hb⟩⟩
  · by_cases e : b = a
    · rw [e, upd_same]; simp
    · rw [upd_ne e]; exact wf.ho b hb
  · rw [upd_ne fun e => by rw [e] at hb; omega]; exact hu
  · by_cases e : b = a
    · rw [e, upd_same]; simp
    · rw [upd_ne e]; exact hb
theorem own_list {xs : List D} (sl : SL K cl F H ρ σ n) (hi : ρ[i]? = some (some (.olst xs))) : ∃ a vs, σ[i]? = some (some (.ref a)) ∧ H a = some (.lst vs) ∧ RL K cl F H xs vs := by
  obtain ⟨v, n1, n2, ev, ro, hn, put⟩ := SL.get sl hi
  obtain ⟨a, vs, rfl, h, rl, _⟩ := ro
  exact ⟨a, vs, ev, h, rl⟩
/-- a list of a name's own gets other items -/
theorem list_write {xs ys : List D} {a : Addr} {vs ws : List V} (sl : SL K cl F H ρ σ n) (wf : WF F H n) (hi : ρ[i]? = some (some (.olst xs))) (ev : σ[i]? = some (some (.ref a))) (h : H a = some (.lst vs)) (rl : RL K cl F H ys ws) :
    SL K cl F (upd H a (.lst ws)) (ρ.set i (some (.olst ys))) σ n ∧ WF F (upd H a (.lst ws)) n ∧ Ext F H n F (upd H a (.lst ws)) n := by
  obtain ⟨v0, m1, m2, ev0, ro0, _, _⟩ := SL.get sl hi
  rw [ev] at ev0
  cases ev0
  have hu : ∀ v n1, RO K cl F H (.olst xs) v n1 → ∃ b, v = .ref b ∧ n1 b ≠ 0 := fun v n1 ro => by
    obtain ⟨b, us, e, _, _, z⟩ := ro
    exact ⟨b, e, by rw [z b]; simp [one]⟩
  -- the name's own address is a
  obtain ⟨v, n1, n2, ev2, ro, hn, put⟩ := SL.get sl hi
  rw [ev] at ev2
  cases ev2
  obtain ⟨b, us, e, hb, rl0, z⟩ := ro
  cases e
  have h1 : n1 a ≠ 0 := by rw [z a]; simp [one]
  have hle := wf.le a
  have hna := hn a
  have hf : ∀ b, F b → upd H a (.lst ws) b = H b := fun b hb => upd_ne fun e => wf.nf a (by omega) (e ▸ hb)
  have hset : σ.set i (some (.ref a)) = σ := by
    obtain ⟨q1, q2⟩ := List.getElem?_eq_some_iff.mp ev
    rw [← q2]; exact List.set_getElem_self q1
  have s2 := put (F' := F) (H' := upd H a (.lst ws)) (r' := some (.olst ys)) (s' := some (.ref a)) (m := n1) (fun _ h => h) hf (fun b hb => upd_ne fun e => by rw [e] at hb; omega) ⟨.ref a, rfl, a, ws, rfl, upd_same, RL.mono (fun _ h => h) hf ys rl, z⟩
  rw [hset] at s2
  have hn' : (fun a => n1 a + n2 a) = n := funext fun b => (hn b).symm
  rw [hn'] at s2
  refine ⟨s2, ⟨wf.le, wf.nf, fun b hb => ?_, fun b hb => by rw [hf b hb]; exact wf.hf b hb⟩, ⟨fun b u hu hb => ?_, fun b hb => ?_, fun _ h => h, fun b hb => .inl hb, fun b hb => .inl hb⟩⟩
  · by_cases e : b = a
    · rw [e, upd_same]; simp
    · rw [upd_ne e]; exact wf.ho b hb
  · rw [upd_ne fun e => by rw [e] at hb; omega]; exact hu
  · by_cases e : b = a
    · rw [e, upd_same]; simp
    · rw [upd_ne e]; exact hb
end
/-- x.append(e) -/
def apnd (i : Nat) (d : M D) : M D := fun ρ => match ρ[i]? with
  | some (some (.olst _)) => (bnd d fun x => fun ρ => match ρ[i]? with
    | some (some (.olst xs)) => if xs.length < sizeLine then some (.ok .non, ρ.set i (some (.olst (xs ++ [x])))) else none
    | _ => none) ρ
  | _ => none
/-- x[k] = e -/
def seti (i : Nat) (k d : M D) : S := sbnd d fun x => fun lk ρ => match ρ[i]? with
  | some (some (.olst _)) => (sbnd k fun j => fun _ ρ => match ρ[i]?, j with
    | some (some (.olst xs)), .int z => match ixN xs.length z with
      | some m => some (.ok .nx, ρ.set i (some (.olst (xs.set m x))))
      | none => none
    | _, _ => none) lk ρ
  | _ => none
section
variable {C : Cf} {o e k : Expr} {d dk : M D} {pos p apos spos : Pos} {i : Nat} {lk : List Nat}
theorem e_append (ho : PE C.X o (tVar i)) (ha : DE C e d)
    (hbase : attributeBase o "append" C.X.env (eval o C.X.env) = eval o C.X.env := by rfl)
    (hfew : ((backTo pos (starEach [e] C.X.env)).all (fun x => !x.1) && (backToKw pos (keywordEach [] C.X.env)).all (fun x => x.1.isSome)
      && decide (([e] : List Expr).length + ([] : List Keyword).length + (if ([] : List Keyword).isEmpty then 0 else 1) < 30)) = true := by rfl)
    (hline : (apos.endLine == pos.line) = true := by rfl) (hs : starEach [e] C.X.env = (false, eval e C.X.env) :: starEach [] C.X.env := by rfl) (hplain : (backTo pos (starEach [] C.X.env)).any (·.1) = false := by rfl) :
    DE C (.Call (.Attribute o "append" apos) [e] [] pos) (apnd i d) := by
  refine PE.imp (pe_bm PySem.F.plainAttrs_list PySem.F.slot_list_append PySem.F.type_list_append mt_append ho (pa_cons ha pa_nil hs) hbase hfew hline hs hplain) fun σ H Q ⟨F, ρ, n, sl, wf, q⟩ => ?_
  unfold apnd at q
  split at q
  · rename_i xs0 h0
    obtain ⟨a, vs0, ev, hv0, rl0⟩ := own_list sl h0
    refine ⟨.ref a, ev, .inl ⟨rfl, vs0, SqL.of hv0⟩, F, ρ, n, sl, wf, q.bnd.imp fun x ρ1 q => ?_⟩
    intro v F1 H1 n1 rx sl1 wf1 ex1
    show rAppend _ _ _ _
    split at q
    · rename_i xs h1
      obtain ⟨a', vs, ev', hv, rl⟩ := own_list sl1 h1
      rw [ev] at ev'
      cases ev'
      split at q
      · rename_i hz
        refine ⟨a, vs, v, rfl, rfl, hv, by rw [rl.length]; exact hz, ?_⟩
        obtain ⟨s2, w2, e2⟩ := list_write sl1 wf1 h1 ev hv (rl.append (show RL C.X.K C.cl F1 H1 [x] [v] from ⟨v, [], rfl, rx, rfl⟩))
        have q : pD C.X.K C.cl F H n σ Q .non _ := q
        exact q .non F1 _ n1 rfl s2 w2 (ex1.trans wf e2)
      · exact q.elim
    · exact q.elim
  · exact q.elim
theorem s_seti (ho : PE C.X o (tVar i)) (hk : DE C k dk) (he : DE C e d) (hs : swapsWithSole [.Subscript o k spos] e pos.line C.X.env = pure false := by rfl) (hw : swappedStores [.Subscript o k spos] e C.X.env = pure none := by rfl)
    (h1 : (assignEach [.Subscript o k spos] C.X.env).map (·.2) = [assign (.Subscript o k spos) C.X.env] := by rfl)
    (ha : ∀ v, assign (.Subscript o k spos) C.X.env v = (do
      let ov ← holding [v] (eval o C.X.env)
      let iv ← holding [v, ov] (eval k C.X.env)
      standAt spos
      holding [v, ov, iv] (setItem ov iv v)
      release [v, ov, iv] []) := by intro _; rfl) : DS C lk (.Assign [.Subscript o k spos] e pos) (seti i dk d) := by
  refine PS.imp (ps_asg he (pg_sub ho hk set_list ha) hs hw h1) fun D σ H ⟨F, ρ, n, sl, wf, q⟩ => ⟨F, ρ, n, sl, wf, (Ms.bnd q).imp fun x ρ1 q => ?_⟩
  intro v F1 H1 n1 rx sl1 wf1 ex1
  have q := Ms.step wf ex1 Lk.refl q
  split at q
  · rename_i xs0 h0
    obtain ⟨a, vs0, ev, hv0, rl0⟩ := own_list sl1 h0
    refine ⟨.ref a, ev, F1, ρ1, n1, sl1, wf1, (Ms.bnd q).imp fun j ρ2 q => ?_⟩
    intro jv F2 H2 n2 rj sl2 wf2 ex2
    split at q
    · rename_i xs z h2
      split at q
      · rename_i m hm
        obtain ⟨a', vs, ev', hv, rl⟩ := own_list sl2 h2
        rw [ev] at ev'
        cases ev'
        cases rj
        refine ⟨a, vs, z, m, rfl, rfl, hv, by rw [rl.length]; exact hm, ?_⟩
        obtain ⟨s3, w3, e3⟩ := list_write sl2 wf2 h2 ev hv (rl.set m (rx.ext wf1 ex2))
        have q : pN C.X.K C.cl F1 H1 n1 lk σ D.nx _ := q
        exact q σ F2 _ n2 s3 w3 (ex2.trans wf1 e3) Lk.refl
      · exact q.elim
    · exact q.elim
  · exact q.elim
end
end KR

set_option Elab.async false
set_option linter.all false
set_option maxRecDepth 100000
set_option maxHeartbeats 2000000
/-! Rules: list comprehensions. -/
namespace KR
open PySem L2 PyProof.Rows

/-- the comprehension's own names are unset -/
def wipeE (ρ : Env) : List Nat → Env
  | [] => ρ
  | v :: vs => (wipeE ρ vs).set v none
/-- and set again as they were -/
def restE (ρ2 ρ : Env) : List Nat → Env
  | [] => ρ2
  | v :: vs => (restE ρ2 ρ vs).set v (ρ.getD v none)
def plainS : Option (Option RV) → Bool
  | some none => true
  | some (some (.val _)) => true
  | _ => false
/-- nothing of its own names is owned -/
def okW (ρ : Env) (vs : List Nat) : Bool := vs.all fun v => plainS ρ[v]?
/-- the other places -/
def oth (n : Nat) (vs : List Nat) : List Nat := (List.range n).filter fun i => !vs.contains i
def compL (g : Gd) (t : M Bool) (elt : M D) (vs : List Nat) (N : Nat) : List D → List D → Env → Option (List D × Env)
  | [], acc, ρ => some (acc, ρ)
  | x :: xs, acc, ρ => match g x (oth N vs) ρ with
    | none => none
    | some ρ1 => if ρ1.length = N then (match t ρ1 with
      | some (.ok true, ρ2) => match elt ρ2 with
        | some (.ok y, ρ3) => if okW ρ3 vs = true then compL g t elt vs N xs (acc ++ [y]) (wipeE ρ3 vs) else none
        | _ => none
      | some (.ok false, ρ2) => if okW ρ2 vs = true then compL g t elt vs N xs acc (wipeE ρ2 vs) else none
      | _ => none) else none
def lcomp (vs : List Nat) (it : M (List D)) (g : Gd) (t : M Bool) (elt : M D) : M RV := bnd it fun xs => fun ρ =>
  if okW ρ vs = true ∧ xs.length ≤ sizeLine then
    match compL g t elt vs ρ.length xs [] (wipeE ρ vs) with
    | some (ys, ρ2) => if okW ρ2 vs = true then some (.ok (.olst ys), restE ρ2 ρ vs) else none
    | none => none
  else none

section
variable {K : PySem.W.Frag} {cl : Nat → Addr} {F F' : Addr → Prop} {H H' : Hp} {n n' m : Addr → Nat} {σ σ2 : L2.St} {ρ ρ2 : Env} {vs : List Nat}
/-- a plain place gets another plain thing -/
theorem SL.plain : ∀ {rs : List (Option RV)} {ss : List (Option V)} {n : Addr → Nat} {i : Nat} {r : Option RV} {s : Option V}, SL K cl F H rs ss n → plainS rs[i]? = true → SLOT K cl F H r s (fun _ => 0) → SL K cl F H (rs.set i r) (ss.set i s) n
  | [], _, _, _, _, _, _, e, _ => by simp [plainS] at e
  | r0 :: rs, _, n, 0, r, s, ⟨s0, us, n1, n2, e1, q, qs, z⟩, e, k => by
    have h0 : ∀ a, n1 a = 0 := by
      simp at e
      cases r0 with
      | none => exact q
      | some rv =>
        obtain ⟨v, _, ro⟩ := q
        cases rv with
        | val d => exact ro.2
        | _ => cases e
    rw [e1]
    exact ⟨s, us, fun _ => 0, n2, rfl, k, qs, fun a => by rw [z a, h0 a]⟩
  | r0 :: rs, _, n, i + 1, r, s, ⟨s0, us, n1, n2, e1, q, qs, z⟩, e, k => by
    rw [e1]
    exact ⟨s0, _, n1, n2, rfl, q, SL.plain qs (by simpa using e) k, z⟩
theorem wipeE_length : ∀ vs, (wipeE ρ vs).length = ρ.length
  | [] => rfl
  | v :: vs => by unfold wipeE; rw [List.length_set, wipeE_length vs]
theorem plain_set {r : Option RV} {i j : Nat} (h : plainS ρ[i]? = true) (hr : plainS (some r) = true) : plainS (ρ.set j r)[i]? = true := by
  by_cases e : j = i
  · subst e
    have hi : j < ρ.length := by
      refine Decidable.byContradiction fun z => ?_
      rw [List.getElem?_eq_none (by omega)] at h
      cases h
    rw [List.getElem?_set_self hi]
    exact hr
  · rw [List.getElem?_set_ne e]
    exact h
theorem wipeE_plain : ∀ (vs : List Nat) {i : Nat}, plainS ρ[i]? = true → plainS (wipeE ρ vs)[i]? = true
  | [], _, h => h
  | v :: vs, i, h => plain_set (wipeE_plain vs h) rfl
theorem SL.wipe : ∀ {vs : List Nat}, SL K cl F H ρ σ n → okW ρ vs = true → SL K cl F H (wipeE ρ vs) (wipe σ vs) n
  | [], s, _ => s
  | v :: vs, s, h => by
    unfold okW at h
    rw [List.all_cons, Bool.and_eq_true] at h
    exact SL.plain (SL.wipe s h.2) (wipeE_plain vs h.1) fun _ => rfl
theorem wipe_get : ∀ (vs : List Nat) (i : Nat), i ∉ vs → (wipe σ vs)[i]? = σ[i]?
  | [], _, _ => rfl
  | v :: vs, i, h => by
    unfold wipe
    rw [List.getElem?_set_ne (fun e => h (by rw [e]; exact List.mem_cons_self)), wipe_get vs i fun z => h (List.mem_cons_of_mem _ z)]
theorem wipe_in : ∀ (vs : List Nat) (i : Nat), i ∈ vs → i < σ.length → (wipe σ vs)[i]? = some none
  | v :: vs, i, h, hi => by
    unfold wipe
    by_cases e : v = i
    · subst e
      rw [List.getElem?_set_self (by rw [wipe_length]; exact hi)]
    · rw [List.getElem?_set_ne e]
      rcases List.mem_cons.mp h with z | z
      · exact absurd z.symm e
      · exact wipe_in vs i z hi
theorem wipe_eq (hl : σ2.length = σ.length) (h : ∀ i, i ∉ vs → i < σ.length → σ2[i]? = σ[i]?) : wipe σ2 vs = wipe σ vs := by
  apply List.ext_getElem?
  intro i
  by_cases hi : i < σ.length
  · by_cases hv : i ∈ vs
    · rw [wipe_in vs i hv hi, wipe_in vs i hv (by rw [hl]; exact hi)]
    · rw [wipe_get vs i hv, wipe_get vs i hv, h i hv hi]
  · rw [List.getElem?_eq_none (by rw [wipe_length]; omega), List.getElem?_eq_none (by rw [wipe_length]; omega)]
def restS (σ2 σ : L2.St) : List Nat → L2.St
  | [] => σ2
  | v :: vs => (restS σ2 σ vs).set v (σ.getD v none)
theorem restS_length : ∀ vs, (restS σ2 σ vs).length = σ2.length
  | [] => rfl
  | v :: vs => by unfold restS; rw [List.length_set, restS_length vs]
theorem restS_out : ∀ (vs : List Nat) (i : Nat), i ∉ vs → (restS σ2 σ vs)[i]? = σ2[i]?
  | [], _, _ => rfl
  | v :: vs, i, h => by
    unfold restS
    rw [List.getElem?_set_ne (fun e => h (by rw [e]; exact List.mem_cons_self)), restS_out vs i fun z => h (List.mem_cons_of_mem _ z)]
theorem restS_in : ∀ (vs : List Nat) (i : Nat), i ∈ vs → i < σ2.length → (restS σ2 σ vs)[i]? = some (σ.getD i none)
  | v :: vs, i, h, hi => by
    unfold restS
    by_cases e : v = i
    · subst e
      rw [List.getElem?_set_self (by rw [restS_length]; exact hi)]
    · rw [List.getElem?_set_ne e]
      rcases List.mem_cons.mp h with z | z
      · exact absurd z.symm e
      · exact restS_in vs i z hi
theorem restS_wipe : restS (wipe σ vs) σ vs = σ := by
  apply List.ext_getElem?
  intro i
  by_cases hi : i < σ.length
  · by_cases hv : i ∈ vs
    · rw [restS_in vs i hv (by rw [wipe_length]; exact hi)]
      simp [hi]
    · rw [restS_out vs i hv, wipe_get vs i hv]
  · rw [List.getElem?_eq_none (by rw [restS_length, wipe_length]; omega), List.getElem?_eq_none (by omega)]
theorem SL.slot : ∀ {rs : List (Option RV)} {ss : List (Option V)} {n : Addr → Nat} {i : Nat}, SL K cl F H rs ss n → plainS rs[i]? = true → SLOT K cl F H (rs.getD i none) (ss.getD i none) (fun _ => 0)
  | [], _, _, _, _, e => by simp [plainS] at e
  | r0 :: rs, _, n, 0, ⟨s0, us, n1, n2, e1, q, qs, z⟩, e => by
    simp at e
    rw [e1]
    cases r0 with
    | none => exact fun _ => rfl
    | some rv =>
      obtain ⟨v, ev, ro⟩ := q
      cases rv with
      | val d => exact ⟨v, ev, ro.1, fun _ => rfl⟩
      | _ => cases e
  | r0 :: rs, _, n, i + 1, ⟨s0, us, n1, n2, e1, q, qs, z⟩, e => by
    rw [e1]
    simpa using SL.slot qs (by simpa using e)
theorem SLOT.mono {r : Option RV} {s : Option V} (hf : ∀ a, F a → F' a) (hh : ∀ a, F a → H' a = H a) (h : SLOT K cl F H r s (fun _ => 0)) : SLOT K cl F' H' r s (fun _ => 0) := by
  cases r with
  | none => exact h
  | some rv =>
    obtain ⟨v, ev, ro⟩ := h
    exact ⟨v, ev, RO.mono hf hh rv (fun a z => absurd rfl z) ro⟩
theorem restE_plain : ∀ (vs : List Nat) {i : Nat}, okW ρ vs = true → plainS ρ2[i]? = true → plainS (restE ρ2 ρ vs)[i]? = true
  | [], _, _, h => h
  | v :: vs, i, ho, h => by
    unfold okW at ho
    rw [List.all_cons, Bool.and_eq_true] at ho
    refine plain_set (restE_plain vs ho.2 h) ?_
    have z := ho.1
    cases e : ρ[v]? with
    | none => rw [e] at z; cases z
    | some o =>
      rw [e] at z
      have : ρ.getD v none = o := by rw [List.getD_eq_getElem?_getD, e]; rfl
      rw [this]
      exact z
theorem SL.rest : ∀ {vs : List Nat}, SL K cl F H ρ2 σ2 n → okW ρ2 vs = true → okW ρ vs = true → (∀ v ∈ vs, SLOT K cl F H (ρ.getD v none) (σ.getD v none) (fun _ => 0)) → SL K cl F H (restE ρ2 ρ vs) (restS σ2 σ vs) n
  | [], s, _, _, _ => s
  | v :: vs, s, h2, h, k => by
    have h' := h
    unfold okW at h h2
    rw [List.all_cons, Bool.and_eq_true] at h h2
    exact SL.plain (SL.rest s h2.2 h.2 fun x hx => k x (List.mem_cons_of_mem _ hx)) (restE_plain vs h.2 h2.1) (k v List.mem_cons_self)
theorem okW_wipe (h : okW ρ vs = true) : okW (wipeE ρ vs) vs = true := by
  unfold okW at h ⊢
  rw [List.all_eq_true] at h ⊢
  exact fun v hv => wipeE_plain vs (h v hv)
end

/-- what is owned beside a part of the way stays -/
theorem beside {K : PySem.W.Frag} {cl : Nat → Addr} {F F' : Addr → Prop} {H H' : Hp} {n n' : Addr → Nat} {p : Addr} {o : HO} (w : WF F H (fun a => one p a + n a)) (ex : Ext F H n F' H' n') (w' : WF F' H' n') (h : H p = some o) :
    WF F' H' (fun a => one p a + n' a) ∧ Ext F H (fun a => one p a + n a) F' H' (fun a => one p a + n' a) ∧ H' p = some o := by
  have w2 : WF F H (fun a => n a + one p a) := w.congr fun a => Nat.add_comm _ _
  refine ⟨(w2.more ex w').congr fun a => Nat.add_comm _ _, (ex.more w2).congr (fun a => Nat.add_comm _ _) fun a => Nat.add_comm _ _, ex.frame p o h ?_⟩
  have := w.le p
  unfold one at this
  rw [if_pos rfl] at this
  omega

/-- a comprehension's block -/
def Cf.blk (C : Cf) (s : Shared) (H : Hp) (scope : Scope) (cenv : PySem.Env) (fp : List Addr) : Cf where
  X := C.X.blk s H scope cenv fp
  cl := C.cl
  W := fun _ _ _ _ => False
  k := C.k
  CX := C.CX
  room := C.room
  calm := C.calm
  nd := C.nd
  pass := fun σ pins H' s' e s'' I h => (C.cxF _ _ _ _ _ h).elim
  cxF := C.cxF
  own := PassesOwn.never
section
variable {C : Cf} {elt tg iter : Expr} {ifs : List Expr} {scope : Scope} {own : List (Str × Nat)} {pos spos py : Pos} {d : M (List D)} {g : Gd} {t : M Bool} {de : M D} {lk : List Nat}
/-- what the block's parts denote -/
structure Blk (C : Cf) (elt tg iter : Expr) (ifs : List Expr) (scope : Scope) (own : List (Str × Nat)) (g : Gd) (t : M Bool) (de : M D) : Prop where
  ok : BlkOk C.X.N C.X.env.scope scope own
  tg : ∀ (s : Shared) (H : Hp) (L : Addr) (cls : List (Str × Addr)) (fp : List Addr) (lk : List Nat), DG (C.blk s H scope (compEnvC scope cls L C.X.env) fp) lk tg g
  tt : ∀ (s : Shared) (H : Hp) (L : Addr) (cls : List (Str × Addr)) (fp : List Addr), PTs (C.X.blk s H scope (compEnvC scope cls L C.X.env) fp) ifs (tT C.X.K C.cl (fun _ _ _ _ => False) t)
  el : ∀ (s : Shared) (H : Hp) (L : Addr) (cls : List (Str × Addr)) (fp : List Addr), DE (C.blk s H scope (compEnvC scope cls L C.X.env) fp) elt de
theorem lc_imp {σ : L2.St} {H : Hp} {Q : VK} {N : Nat} (hN : N = σ.length) (h : tO C.X.K C.cl C.W (lcomp (own.map (·.2)) d g t de) σ H Q) :
    tLc (tI C.X.K C.cl C.W d) (tGt C.X.K C.cl (oth N (own.map (·.2))) g) (tT C.X.K C.cl (fun _ _ _ _ => False) t) (tE C.X.K C.cl (fun _ _ _ _ => False) de) (own.map (·.2)) σ H Q := by
  obtain ⟨F, ρ, n, sl, wf, q⟩ := h
  refine ⟨F, ρ, n, sl, wf, q.bnd.imp fun xs ρ0 q => ?_⟩
  intro J F0 H0 n0 w0 sl0 wf0 ex0 Dl hD
  generalize hvs : own.map (·.2) = vs at q ⊢
  have q := Mt.step wf ex0 q (P' := pO C.X.K C.cl F0 H0 n0 σ Q) fun a ρ' q => q.step wf ex0
  by_cases hok : okW ρ0 vs = true ∧ xs.length ≤ sizeLine
  · rw [if_pos hok] at q
    have hlen := SL.length sl0
    cases hr : compL g t de vs ρ0.length xs [] (wipeE ρ0 vs) with
    | none => rw [hr] at q; exact q.elim
    | some p =>
      obtain ⟨ys, ρe⟩ := p
      rw [hr] at q
      dsimp only at q
      by_cases hoke : okW ρe vs = true
      case neg => rw [if_neg hoke] at q; exact q.elim
      rw [if_pos hoke] at q
      have q : pO C.X.K C.cl F0 H0 n0 σ Q (.olst ys) (restE ρe ρ0 vs) := q
      rw [← hlen, ← hN] at hr
      obtain ⟨wD, eD⟩ := new_own (o := .lst []) wf0 hD
      have slD : SL C.X.K C.cl F0 (upd H0 Dl (.lst [])) (wipeE ρ0 vs) (wipe σ vs) n0 := SL.wipe (sl0.ext wf0 (fun a h => h) fun a h => upd_ne fun e => h (by rw [e]; exact hD)) hok.1
      have hWL : (wipe σ vs).length = σ.length := wipe_length σ vs
      -- turn by turn
      let Inv1 : Nat → Hp → Prop := fun i H1 => i ≤ xs.length ∧ ∃ (F1 : Addr → Prop) (ρ1 : Env) (n1 : Addr → Nat) (acc : List D) (av : List V), Lat F0 H0 F1 H1 ∧ SL C.X.K C.cl F1 H1 ρ1 (wipe σ vs) n1 ∧ WF F1 H1 (fun a => one Dl a + n1 a) ∧
        Ext F0 H0 n0 F1 H1 (fun a => one Dl a + n1 a) ∧ H1 Dl = some (.lst av) ∧ RL C.X.K C.cl F1 H1 acc av ∧ acc.length ≤ i ∧ okW ρ1 vs = true ∧ compL g t de vs N (xs.drop i) acc ρ1 = some (ys, ρe)
      refine ⟨fun i k H1 => k = xs.length - i ∧ Inv1 i H1, ⟨xs.length, rfl, Nat.zero_le _, F0, wipeE ρ0 vs, n0, [], [], ⟨fun _ h => h, fun a h => upd_ne fun e => wf0.hf a h (by rw [e]; exact hD)⟩, slD, wD, eD, upd_same, rfl, Nat.le_refl _, okW_wipe hok.1, hr⟩, ?_⟩
      rintro i k H1 ⟨rfl, hi, F1, ρ1, n1, acc, av, l1, sl1, wf1, ex1, hD1, rl1, hacc, ok1, hc⟩
      have wn1 : WF F1 H1 n1 := wf1.sub fun a => by omega
      by_cases hlt : i < xs.length
      · refine .inr ⟨w0.goes i F1 H1 n1 hlt l1 wn1, Inv1 (i + 1), fun H' h => ⟨xs.length - (i + 1), by omega, rfl, h⟩, fun v H2 y => ?_⟩
        obtain ⟨dd, F2, hd, rd, wf2, ex2, sm2⟩ := w0.yields i F1 H1 n1 v H2 hlt l1 wn1 y
        have hdrop : xs.drop i = dd :: xs.drop (i + 1) := by
          rw [List.drop_eq_getElem_cons hlt]
          rw [List.getElem?_eq_getElem hlt] at hd
          rw [Option.some.inj hd]
        rw [hdrop] at hc
        have sl2 : SL C.X.K C.cl F2 H2 ρ1 (wipe σ vs) n1 := sl1.mono ex2.fz (frame_eq wn1 ex2) fun a ha => by
          cases z : H1 a with
          | none => exact absurd z (wn1.ho a ha)
          | some o => exact sm2 a o z
        unfold compL at hc
        cases hg : g dd (oth N vs) ρ1 with
        | none => rw [hg] at hc; cases hc
        | some ρ2 =>
          rw [hg] at hc
          dsimp only at hc
          by_cases hN2 : ρ2.length = N
          case neg => rw [if_neg hN2] at hc; cases hc
          rw [if_pos hN2] at hc
          refine ⟨F2, ρ1, n1, dd, ρ2, rd, sl2, wf2, hg, ?_⟩
          intro σ3 F3 H3 n3 sl3 wf3 ex3 lk3
          have hl3 : σ3.length = σ.length := by rw [SL.length sl3, hN2, hN]
          have hw3 : wipe σ3 vs = wipe σ vs := by
            rw [show wipe σ vs = wipe (wipe σ vs) vs from (wipe_eq hWL fun j hj _ => wipe_get vs j hj).symm]
            refine wipe_eq (by rw [hl3, hWL]) fun j hj hjl => lk3 j ?_
            unfold oth
            rw [List.mem_filter, List.mem_range, hN]
            exact ⟨by rw [hWL] at hjl; exact hjl, by simpa using hj⟩
          refine ⟨hw3, ?_⟩
          have ex13 := ex2.trans wn1 ex3
          obtain ⟨wp3, ep3, hD3⟩ := beside (K := C.X.K) (cl := C.cl) wf1 ex13 wf3 hD1
          have rl3 : RL C.X.K C.cl F3 H3 acc av := rl1.ext wn1 ex13
          -- the next turn's start
          have again : ∀ {F4 : Addr → Prop} {H4 : Hp} {n4 : Addr → Nat} {ρ4 : Env} {acc4 : List D} {av4 : List V}, WF F4 H4 (fun a => one Dl a + n4 a) → Ext F1 H1 (fun a => one Dl a + n1 a) F4 H4 (fun a => one Dl a + n4 a) → SL C.X.K C.cl F4 H4 ρ4 σ3 n4 → H4 Dl = some (.lst av4) → RL C.X.K C.cl F4 H4 acc4 av4 → acc4.length ≤ i + 1 → okW ρ4 vs = true →
              compL g t de vs N (xs.drop (i + 1)) acc4 (wipeE ρ4 vs) = some (ys, ρe) → Inv1 (i + 1) H4 := fun {F4 H4 n4 ρ4 acc4 av4} w4 e4 s4 h4 r4 l4 ok4 c4 => by
            have e04 := ex1.trans wf0 e4
            refine ⟨hlt, F4, wipeE ρ4 vs, n4, acc4, av4, ⟨fun a h => e04.fz a h, fun a h => frame_eq wf0 e04 a h⟩, ?_, w4, e04, h4, r4, l4, okW_wipe ok4, c4⟩
            rw [← hw3]
            exact SL.wipe s4 ok4
          refine ⟨F3, ρ2, n3, sl3, wf3, ?_⟩
          unfold Mt
          cases ht : t ρ2 with
          | none => rw [ht] at hc; cases hc
          | some p =>
            obtain ⟨r, ρ3⟩ := p
            rw [ht] at hc
            cases r with
            | error x => cases hc
            | ok b =>
              intro F4 H4 n4 sl4 wf4 ex4
              obtain ⟨wp4, ep4, hD4⟩ := beside (K := C.X.K) (cl := C.cl) wp3 ex4 wf4 hD3
              cases b with
              | false =>
                rw [if_neg Bool.false_ne_true]
                dsimp only at hc
                by_cases ok3 : okW ρ3 vs = true
                · rw [if_pos ok3] at hc
                  exact again wp4 (ep3.trans wf1 ep4) sl4 hD4 (rl3.ext wf3 ex4) (by omega) ok3 hc
                · rw [if_neg ok3] at hc
                  cases hc
              | true =>
                rw [if_pos rfl]
                dsimp only at hc
                refine ⟨F4, ρ3, n4, sl4, wf4, ?_⟩
                unfold Mt
                cases he : de ρ3 with
                | none => rw [he] at hc; cases hc
                | some p =>
                  obtain ⟨r, ρ4⟩ := p
                  rw [he] at hc
                  cases r with
                  | error x => cases hc
                  | ok y =>
                    intro v5 F5 H5 n5 ry sl5 wf5 ex5
                    dsimp only at hc
                    by_cases ok4 : okW ρ4 vs = true
                    · rw [if_pos ok4] at hc
                      obtain ⟨wp5, ep5, hD5⟩ := beside (K := C.X.K) (cl := C.cl) wp4 ex5 wf5 hD4
                      have rl5 : RL C.X.K C.cl F5 H5 acc av := (rl3.ext wf3 ex4).ext wf4 ex5
                      have lav : av.length = acc.length := rl5.length
                      refine ⟨av, hD5, by omega, ?_⟩
                      have nfD : ¬ F5 Dl := wp5.nf Dl (by unfold one; rw [if_pos rfl]; omega)
                      have n5D : n5 Dl = 0 := by
                        have := wp5.le Dl
                        unfold one at this
                        rw [if_pos rfl] at this
                        omega
                      have hf6 : ∀ a, F5 a → upd H5 Dl (.lst (av ++ [v5])) a = H5 a := fun a h => upd_ne fun e => nfD (e ▸ h)
                      have ho6 : ∀ a, n5 a ≠ 0 → upd H5 Dl (.lst (av ++ [v5])) a = H5 a := fun a h => upd_ne fun e => h (e ▸ n5D)
                      have wp6 : WF F5 (upd H5 Dl (.lst (av ++ [v5]))) (fun a => one Dl a + n5 a) := by
                        refine ⟨wp5.le, wp5.nf, fun a h => ?_, fun a h => by rw [hf6 a h]; exact wp5.hf a h⟩
                        by_cases e : a = Dl
                        · rw [e, upd_same]; simp
                        · rw [upd_ne e]; exact wp5.ho a h
                      have ep6 : Ext F5 H5 (fun a => one Dl a + n5 a) F5 (upd H5 Dl (.lst (av ++ [v5]))) (fun a => one Dl a + n5 a) := by
                        refine ⟨fun a o ho hz => ?_, fun a h => ?_, fun _ h => h, fun a h => .inl h, fun a h => .inl h⟩
                        · have hne : a ≠ Dl := fun e => by
                            have hz : one Dl a + n5 a = 0 := hz
                            unfold one at hz
                            rw [if_pos e] at hz
                            omega
                          rw [upd_ne hne]; exact ho
                        · by_cases e : a = Dl
                          · rw [e, upd_same]; simp
                          · rw [upd_ne e]; exact h
                      refine again wp6 (((ep3.trans wf1 ep4).trans wf1 ep5).trans wf1 ep6) (SL.mono (fun _ h => h) hf6 ho6 sl5) upd_same ?_ (by rw [List.length_append, List.length_singleton]; omega) ok4 hc
                      exact RL.append (RL.mono (fun _ h => h) hf6 _ rl5) ⟨v5, [], rfl, R.mono (fun _ h => h) hf6 _ ry, rfl⟩
                    · rw [if_neg ok4] at hc
                      cases hc
      · have e : i = xs.length := by omega
        subst e
        rw [List.drop_length] at hc
        unfold compL at hc
        cases hc
        refine .inl ⟨w0.stops F1 H1 n1 l1 wn1, ?_⟩
        have hslots : ∀ v ∈ vs, SLOT C.X.K C.cl F1 H1 (ρ0.getD v none) (σ.getD v none) (fun _ => 0) := fun v hv => by
          have z := hok.1
          unfold okW at z
          rw [List.all_eq_true] at z
          exact SLOT.mono ex1.fz (frame_eq wf0 ex1) (SL.slot sl0 (z v hv))
        have s2 := SL.rest (ρ := ρ0) (σ := σ) sl1 hoke hok.1 hslots
        rw [restS_wipe] at s2
        exact q (.ref Dl) F1 H1 (one Dl) n1 ⟨Dl, av, rfl, hD1, rl1, fun _ => rfl⟩ s2 wf1 ex1
  · rw [if_neg hok] at q
    exact q.elim
theorem o_lc (B : Blk C elt tg iter ifs scope own g t de) (hi : DI C tg iter d) (hs : ∀ x, foldedSetIterable iter C.X.env x = pure x := by intro _; rfl) : DO C (.ListComp elt [⟨tg, iter, ifs, 0⟩] scope pos) (lcomp (own.map (·.2)) d g t de) := by
  refine ⟨fun pins s σ H Q I h => ?_⟩
  exact (pe_lc (elt := elt) (te := tE C.X.K C.cl (fun _ _ _ _ => False) de) (g := tGt C.X.K C.cl (oth σ.length (own.map fun p : Str × Nat => p.2)) g) C.calm C.nd hi B.ok (fun s H L cls fp => B.tg s H L cls fp _) B.tt B.el hs).run pins s σ H Q I (lc_imp rfl h)
theorem s_setLc {i : Nat} {y : Str} (hy : C.X.N[i]? = some y) (hyl : C.X.env.scope.names.lookup y = some .local) (hsw : swapsWith (.ListComp elt [⟨tg, iter, ifs, 0⟩] scope pos) (some (.Name y py)) spos.line C.X.env = pure true)
    (B : Blk C elt tg iter ifs scope own g t de) (hi : DI C tg iter d) (hs : ∀ x, foldedSetIterable iter C.X.env x = pure x := by intro _; rfl) : DS C lk (.Assign [.Name y py] (.ListComp elt [⟨tg, iter, ifs, 0⟩] scope pos) spos) (sset i (lcomp (own.map (·.2)) d g t de)) := by
  refine ⟨fun pins s σ H D I h => ?_⟩
  refine (ps_setLc (te := tE C.X.K C.cl (fun _ _ _ _ => False) de) (g := tGt C.X.K C.cl (oth σ.length (own.map fun p : Str × Nat => p.2)) g) C.calm C.nd hy hyl hsw hi B.ok (fun s H L cls fp => B.tg s H L cls fp _) B.tt B.el hs).run pins s σ H D I ?_
  obtain ⟨F, ρ, n, sl, wf, q⟩ := h
  refine lc_imp (C := C) (own := own) rfl ⟨F, ρ, n, sl, wf, q.bnd.imp fun r ρ1 q => ?_⟩
  intro v F1 H1 m n1 ro sl1 wf1 ex1
  unfold sput at q
  split at q
  · rename_i h
    exact put_ok q ro sl1 wf1 ex1 Lk.refl h.1 h.2
  · exact q.elim
end
/-- no test, one test -/
theorem tt_nil {X : Cx} {K : PySem.W.Frag} {cl : Nat → Addr} {W : WX} : PTs X [] (tT K cl W (ret true)) := ⟨fun pins s σ H Q I ⟨F, ρ, n, sl, wf, q⟩ => pts_nil.run pins s σ H Q I (q F H n sl wf Ext.refl)⟩
theorem tt_one {C : Cf} {s : Shared} {H : Hp} {scope : Scope} {cenv : PySem.Env} {fp : List Addr} {c : Expr} {t : M Bool} (h : DT (C.blk s H scope cenv fp) c t) : PTs (C.X.blk s H scope cenv fp) [c] (tT C.X.K C.cl (fun _ _ _ _ => False) t) := pts_one h
/-! ### more -/
section
variable {C : Cf} {o e : Expr} {d : M D} {pos apos : Pos}
def gbits : D → Option D
  | .int i => some (.int (Builtin.Int.intBits i : Nat))
  | _ => none
theorem e_bits (ho : DE C o d) (hbase : attributeBase o "bit_length" C.X.env (eval o C.X.env) = eval o C.X.env := by rfl) (hline : (apos.endLine == pos.line) = true := by rfl) : DE C (.Call (.Attribute o "bit_length" apos) [] [] pos) (una gbits d) := by
  refine PE.imp (pe_bits ho hbase hline) fun σ H Q ⟨F, ρ, n, sl, wf, q⟩ => ⟨F, ρ, n, sl, wf, q.bnd.imp fun x ρ1 q => ?_⟩
  obtain ⟨z, ez, q⟩ := Mt_lift q
  intro v F1 H1 n1 rx sl1 wf1 ex1
  cases x with
  | int i => cases ez; exact ⟨i, rx, q _ F1 H1 n1 rfl sl1 wf1 ex1⟩
  | _ => cases ez
/-- len of what a name holds, not frozen by this -/
def lenv (i : Nat) : M D := fun ρ => match ρ[i]? with
  | some (some (.olst xs)) => some (.ok (.int xs.length), ρ)
  | some (some (.val x)) => match glen x with
    | some z => some (.ok z, ρ)
    | none => none
  | _ => none
theorem e_lenv {i : Nat} {x : Str} {p : Pos} (ho : PE C.X o (tVar i)) (hx : x = "len") (hg : Gl C.X x) (hm : C.X.mg x = none) (hv : bootBuiltins x = some (.builtin "len")) (hn : x ≠ "__name__" := by decide) (hdb : (x == ("__debug__" : Str)) = false := by decide)
    (he : starEach [o] C.X.env = (false, eval o C.X.env) :: starEach [] C.X.env := by rfl) (hpl : (backTo pos (starEach [] C.X.env)).any (·.1) = false := by rfl) : DE C (.Call (.Name x p) [o] [] pos) (lenv i) := by
  refine PE.imp (pe_callB (r := fun xs H Q => (∃ p ys, xs = [.ref p] ∧ (SqL C.X.K H p ys ∨ SqT C.X.K H p ys) ∧ Q (.int ys.length) H) ∨ opRL C.X.K C.cl (f1 glen) xs H Q) (CallR.or call_len_seq d_len) hg hm hv (pa_cons ho pa_nil he) hn hdb he hpl) fun σ H Q ⟨F, ρ, n, sl, wf, q⟩ => ?_
  unfold lenv at q
  split at q
  · rename_i xs h0
    obtain ⟨a, vs, ev, hv0, rl⟩ := own_list sl h0
    have q : pD C.X.K C.cl F H n σ Q (.int xs.length) ρ := q
    exact ⟨.ref a, ev, .inl ⟨a, vs, rfl, .inl (SqL.of hv0), by rw [rl.length]; exact q.here rfl sl wf⟩⟩
  · rename_i x h0
    cases hz : glen x with
    | none => rw [hz] at q; exact q.elim
    | some z =>
      rw [hz] at q
      have q : pD C.X.K C.cl F H n σ Q z ρ := q
      obtain ⟨v, n1, n2, ev, ro, _⟩ := SL.get sl h0
      exact ⟨v, ev, .inr ⟨F, n, σ, ρ, [x], z, ⟨v, [], rfl, ro.1, rfl⟩, sl, wf, hz, q⟩⟩
  · exact q.elim
/-- x[k], x's list not frozen by this -/
def ixv (i : Nat) (k : M D) : M D := fun ρ => match ρ[i]? with
  | some (some _) => (bnd k fun j => fun ρ => match ρ[i]?, j with
    | some (some (.olst xs)), .int z => match atI xs z with
      | some d => some (.ok d, ρ)
      | none => none
    | some (some (.val x)), j => match gix x j with
      | some d => some (.ok d, ρ)
      | none => none
    | _, _ => none) ρ
  | _ => none
theorem e_ixv {i : Nat} {k : Expr} {dk : M D} (ho : PE C.X o (tVar i)) (hk : DE C k dk) (hs : PlainIx k) : DE C (.Subscript o k pos) (ixv i dk) := by
  refine PE.imp (pe_ix (IxR.or (ix_list (X := C.X)) (d_ix (cl := C.cl))) ho hk hs) fun σ H Q ⟨F, ρ, n, sl, wf, q⟩ => ?_
  unfold ixv at q
  split at q
  · rename_i r h0
    obtain ⟨v, n1, n2, ev, ro, hn, _⟩ := SL.get sl h0
    refine ⟨v, ev, F, ρ, n, sl, wf, q.bnd.imp fun j ρ1 q => ?_⟩
    intro jv F1 H1 n1' rj sl1 wf1 ex1
    split at q
    · rename_i xs z h1
      cases hz : atI xs z with
      | none => rw [hz] at q; exact q.elim
      | some d =>
        rw [hz] at q
        have q : pD C.X.K C.cl F H n σ Q d ρ1 := q
        obtain ⟨a, vs, ev2, hv, rl⟩ := own_list sl1 h1
        rw [ev] at ev2
        cases ev2
        cases rj
        obtain ⟨u, hu, ru⟩ := rl.at hz
        exact .inl ⟨a, vs, z, u, rfl, rfl, SqL.of hv, hu, q u F1 H1 n1' ru sl1 wf1 ex1⟩
    · rename_i x h1
      cases hz : gix x _ with
      | none => rw [hz] at q; exact q.elim
      | some d =>
        rw [hz] at q
        have q : pD C.X.K C.cl F H n σ Q d ρ1 := q
        obtain ⟨v2, m1, m2, ev2, ro2, _⟩ := SL.get sl1 h1
        rw [ev] at ev2
        cases ev2
        exact .inr ⟨F1, n1', σ, ρ1, x, _, d, ro2.1, rj, sl1, wf1, hz, q.step wf ex1⟩
    · exact q.elim
  · exact q.elim
end
end KR

set_option Elab.async false
set_option linter.all false
namespace KR
open PySem L2 PyProof.Rows
theorem Cf.hu64 (C : Cf) : C.X.A.units + 64 < cLine := C.room.units
theorem Cf.hu65 (C : Cf) : C.X.A.units + 65 < cLine := by have := C.room.un; omega
theorem boot_isi : bootBuiltins "isinstance" = some (.builtin "isinstance") := by decide +kernel
/-- the law's promise, of what it answers -/
theorem sp_main {K : PySem.W.Frag} {cl : Nat → Addr} {f : Cl} {H : Hp} {a : Addr} {zs : List Int} (hf : ∃ rs', f [.val (.lsr (zs.map .int))] = some (.ok (.val (.bl true)), rs')) (hS : SqL K H a (zs.map V.int)) :
    spD K cl 1 f [.ref a] H (fun v _ => v = .bl true) fun _ _ _ => False := by
  obtain ⟨rs', e⟩ := hf
  have hR : ∀ {F : Addr → Prop} (zs : List Int), RL K cl F H (zs.map .int) (zs.map V.int) := fun zs => by
    induction zs with
    | nil => rfl
    | cons z zs ih => exact ⟨_, _, rfl, rfl, ih⟩
  refine ⟨fun b => b = a ∧ H b ≠ none, [.val (.lsr (zs.map .int))], fun _ => 0, ⟨.ref a, [], fun _ => 0, fun _ => 0, rfl, ⟨⟨a, _, rfl, ?_, hR zs⟩, fun _ => rfl⟩, ⟨rfl, fun _ => rfl⟩, fun _ => rfl⟩,
    ⟨fun _ => Nat.zero_le _, fun _ h => absurd rfl h, fun _ h => absurd rfl h, fun _ h => h.2⟩, rfl, ?_⟩
  · rcases hS with h | h
    · refine .inl ⟨⟨rfl, fun q => ?_⟩, h⟩
      unfold Rd at h
      rw [q] at h
      rcases h with h | ⟨_, h⟩ <;> cases h
    · exact .inr h
  · rw [e]
    intro v F' H' m n' ro _ _ _
    exact ro.1
theorem cx_no {P : Program} (w : World) (H : Hp) (s : Shared) (e : Value) (s' : Shared) (h : L2.CX P w [] H s (fun _ _ _ => False) e s') : False := by
  obtain ⟨_, _, _, _, _, _, _, _, _, _, _, _, z⟩ := h
  exact z
end KR

set_option Elab.async false
set_option linter.all false
set_option maxRecDepth 100000
set_option maxHeartbeats 2000000
/-! A module's dict with text keys that is only read; join; str of a text. -/
namespace KR
open PySem L2 PyProof.Rows

def keyT (e : DictEntry) : Option Str := match e.key with
  | .str x _ => some x
  | _ => none
/-- the values stand for the data, wherever one stands -/
def VTab (K : PySem.W.Frag) (cl : Nat → Addr) : List D → List Value → Prop
  | [], us => us = []
  | d :: ds, us => ∃ u us', us = u :: us' ∧ (∃ v, RelV v u ∧ ∀ (F : Addr → Prop) (H : Hp), R K cl F H d v) ∧ VTab K cl ds us'
/-- at a: a dict of the module that says tb -/
structure KTab (K : PySem.W.Frag) (P : Params) (cl : Nat → Addr) (a : Addr) (tb : List (Str × D)) : Prop where
  ex : ∃ (es : Array DictEntry) (n : Nat) (us : List Value), K.lookup a = some ⟨.type "dict", none, .dict es n, #[]⟩ ∧ PySem.W.KeysLit P es.toList ∧ es.toList.map keyT = tb.map (fun p => some p.1) ∧ es.toList.map (·.val) = us ∧ VTab K cl (tb.map (·.2)) us
  low : (a == sysModules) = false
theorem find_tab {K : PySem.W.Frag} {cl : Nat → Addr} {z : Str} : ∀ {l : List DictEntry} {tb : List (Str × D)} {us : List Value}, l.map keyT = tb.map (fun p => some p.1) → l.map (·.val) = us → VTab K cl (tb.map (·.2)) us →
    match tb.lookup z with
    | none => l.find? (·.key.isStr z) = none ∧ l.any (·.refKey) = false
    | some d => ∃ e, l.find? (·.key.isStr z) = some e ∧ ∃ v, RelV v e.val ∧ ∀ (F : Addr → Prop) (H : Hp), R K cl F H d v
  | [], [], us, _, _, _ => ⟨rfl, rfl⟩
  | [], _ :: _, _, h, _, _ => by cases h
  | _ :: _, [], _, h, _, _ => by cases h
  | e :: l, (k, d) :: tb, us, h1, h2, h3 => by
    obtain ⟨u, us', e1, hd, hr⟩ := h3
    rw [List.map_cons, List.map_cons] at h1
    injection h1 with k1 k2
    rw [List.map_cons, e1] at h2
    injection h2 with v1 v2
    have ih := find_tab (z := z) k2 v2 hr
    obtain ⟨x, t, hk⟩ : ∃ x t, e.key = .str x t := by
      unfold keyT at k1
      split at k1
      · rename_i x t q
        exact ⟨x, t, q⟩
      · cases k1
    have kx : x = k := by
      unfold keyT at k1
      rw [hk] at k1
      exact Option.some.inj k1
    subst kx
    have hs : e.key.isStr z = (x == z) := by rw [hk]; rfl
    have hf : e.refKey = false := by unfold DictEntry.refKey; rw [hk]
    rw [List.lookup_cons]
    by_cases q : z = x
    · subst q
      rw [show (z == z) = true from beq_self_eq_true z]
      dsimp only
      refine ⟨e, ?_, ?_⟩
      · rw [List.find?_cons_of_pos (by rw [hs]; exact beq_self_eq_true _)]
      · rw [v1]
        exact hd
    · have q1 : (z == x) = false := beq_eq_false_iff_ne.mpr q
      have q2 : (x == z) = false := beq_eq_false_iff_ne.mpr fun e => q e.symm
      rw [q1]
      dsimp only
      have f1 : (e :: l).find? (·.key.isStr z) = l.find? (·.key.isStr z) := List.find?_cons_of_neg (by rw [hs, q2]; exact Bool.false_ne_true)
      have f2 : (e :: l).any (·.refKey) = l.any (·.refKey) := by rw [List.any_cons, hf]; rfl
      rw [f1, f2]
      exact ih
theorem KTab.ns {K : PySem.W.Frag} {P : Params} {cl : Nat → Addr} {a : Addr} {tb : List (Str × D)} (T : KTab K P cl a tb) (z : Str) : match tb.lookup z with
    | none => PySem.W.nsIn K a z = some none
    | some d => ∃ u v, PySem.W.nsIn K a z = some (some u) ∧ RelV v u ∧ ∀ (F : Addr → Prop) (H : Hp), R K cl F H d v := by
  obtain ⟨es, n, us, hl, hk, k1, k2, k3⟩ := T.ex
  have h := find_tab (z := z) k1 k2 k3
  unfold PySem.W.nsIn
  rw [hl]
  dsimp only
  cases q : tb.lookup z with
  | none =>
    rw [q] at h
    dsimp only at h ⊢
    rw [h.1, h.2]
    rfl
  | some d =>
    rw [q] at h
    dsimp only at h ⊢
    obtain ⟨e, he, v, r, hr⟩ := h
    rw [he]
    exact ⟨e.val, v, rfl, r, hr⟩
def ginK (tb : List (Str × D)) : D → Option D
  | .str z => some (.bl (tb.lookup z).isSome)
  | _ => none
def gninK (tb : List (Str × D)) : D → Option D
  | .str z => some (.bl (!(tb.lookup z).isSome))
  | _ => none
def gitK (tb : List (Str × D)) : D → Option D
  | .str z => tb.lookup z
  | _ => none
section
variable {C : Cf} {e : Expr} {d : M D} {pos npos : Pos} {x : Str} {a : Addr} {tb : List (Str × D)}
theorem ns_some {K : PySem.W.Frag} {P : Params} {cl : Nat → Addr} (T : KTab K P cl a tb) (z : Str) : ∃ r, PySem.W.nsIn K a z = some r ∧ r.isSome = (tb.lookup z).isSome := by
  have h := T.ns z
  cases q : tb.lookup z with
  | none => rw [q] at h; exact ⟨none, h, rfl⟩
  | some d => rw [q] at h; obtain ⟨u, v, h1, _⟩ := h; exact ⟨some u, h1, rfl⟩
theorem KTab.kd {K : PySem.W.Frag} {w : World} {cl : Nat → Addr} (T : KTab K w.params cl a tb) : ∃ es n, KDict K w a es n := by
  obtain ⟨es, n, us, hl, hk, _⟩ := T.ex
  exact ⟨es, n, hl, hk, T.low⟩
theorem in_imp {g : List (Str × D) → D → Option D} {f : Bool → Bool} (hg : ∀ y z, g tb y = some z → ∃ s, y = .str s ∧ z = .bl (f (tb.lookup s).isSome)) (T : KTab C.X.K C.X.w.params C.cl a tb) {σ : L2.St} {H : Hp} {Q : VK} (h : tE C.X.K C.cl C.W (una (g tb) d) σ H Q) :
    tOp (fun x y H Q => ∃ (z : Str) (r : Option Value), x = .str z ∧ y = .ref a ∧ PySem.W.nsIn C.X.K a z = some r ∧ Q (.bl (f r.isSome)) H) (tE C.X.K C.cl C.W d) (tC (.ref a)) σ H Q := by
  obtain ⟨F, ρ, n, sl, wf, q⟩ := h
  refine ⟨F, ρ, n, sl, wf, q.bnd.imp fun y ρ1 q => ?_⟩
  intro v F1 H1 n1 ry sl1 wf1 ex1
  obtain ⟨z, ez, q⟩ := Mt_lift q
  obtain ⟨s, rfl, rfl⟩ := hg _ _ ez
  obtain ⟨r, e1, e2⟩ := ns_some T s
  exact ⟨s, r, ry, rfl, e1, by rw [e2]; exact q _ F1 H1 n1 rfl sl1 wf1 ex1⟩
theorem gin_str {tb : List (Str × D)} (y z : D) (h : ginK tb y = some z) : ∃ s, y = .str s ∧ z = .bl (id (tb.lookup s).isSome) := by
  cases y <;> first | (cases h; done) | (cases h; exact ⟨_, rfl, rfl⟩)
theorem gnin_str {tb : List (Str × D)} (y z : D) (h : gninK tb y = some z) : ∃ s, y = .str s ∧ z = .bl (!(tb.lookup s).isSome) := by
  cases y <;> first | (cases h; done) | (cases h; exact ⟨_, rfl, rfl⟩)
theorem e_inK (he : DE C e d) (T : KTab C.X.K C.X.w.params C.cl a tb) (hg : Gl C.X x) (hm : C.X.mg x = some (.ref a)) (hb : behindInMarks .In (.Name x npos) = false := by with_unfolding_all rfl) (hd : (x == ("__debug__" : Str)) = false := by decide) : DE C (.Compare e [.In] [.Name x npos] pos) (una (ginK tb) d) := by
  obtain ⟨es, n, D⟩ := T.kd
  exact PE.imp (pe_cmpR (op_in_kd D) he (pe_glob (v := .ref a) hg hm rfl hd) hb) fun σ H Q h => in_imp (f := id) gin_str T h
theorem e_notinK (he : DE C e d) (T : KTab C.X.K C.X.w.params C.cl a tb) (hg : Gl C.X x) (hm : C.X.mg x = some (.ref a)) (hb : behindInMarks .NotIn (.Name x npos) = false := by with_unfolding_all rfl) (hd : (x == ("__debug__" : Str)) = false := by decide) : DE C (.Compare e [.NotIn] [.Name x npos] pos) (una (gninK tb) d) := by
  obtain ⟨es, n, D⟩ := T.kd
  exact PE.imp (pe_cmpR (op_notIn_kd D) he (pe_glob (v := .ref a) hg hm rfl hd) hb) fun σ H Q h => in_imp (f := fun b => !b) gnin_str T h
theorem t_inK (he : DE C e d) (T : KTab C.X.K C.X.w.params C.cl a tb) (hg : Gl C.X x) (hm : C.X.mg x = some (.ref a)) (hb : behindInMarks .In (.Name x npos) = false := by with_unfolding_all rfl) (hd : (x == ("__debug__" : Str)) = false := by decide) : DT C (.Compare e [.In] [.Name x npos] pos) (tst (una (ginK tb) d)) := by
  obtain ⟨es, n, D⟩ := T.kd
  exact PT.imp (pt_cmpR (op_in_kd D) he (pe_glob (v := .ref a) hg hm rfl hd) hb) fun σ H Q h => in_imp (f := id) gin_str T (t_of (X := C.X) h)
theorem t_notinK (he : DE C e d) (T : KTab C.X.K C.X.w.params C.cl a tb) (hg : Gl C.X x) (hm : C.X.mg x = some (.ref a)) (hb : behindInMarks .NotIn (.Name x npos) = false := by with_unfolding_all rfl) (hd : (x == ("__debug__" : Str)) = false := by decide) : DT C (.Compare e [.NotIn] [.Name x npos] pos) (tst (una (gninK tb) d)) := by
  obtain ⟨es, n, D⟩ := T.kd
  exact PT.imp (pt_cmpR (op_notIn_kd D) he (pe_glob (v := .ref a) hg hm rfl hd) hb) fun σ H Q h => in_imp (f := fun b => !b) gnin_str T (t_of (X := C.X) h)
/-- NAME[e] -/
theorem e_itK {k : Expr} {dk : M D} (hk : DE C k dk) (T : KTab C.X.K C.X.w.params C.cl a tb) (hg : Gl C.X x) (hm : C.X.mg x = some (.ref a)) (hs : PlainIx k) (hd : (x == ("__debug__" : Str)) = false := by decide) : DE C (.Subscript (.Name x npos) k pos) (una (gitK tb) dk) := by
  refine PE.imp (pe_ix ix_kdict (pe_glob (v := .ref a) hg hm rfl hd) hk hs) fun σ H Q ⟨F, ρ, n, sl, wf, q⟩ => ?_
  refine ⟨F, ρ, n, sl, wf, q.bnd.imp fun y ρ1 q0 => ?_⟩
  intro v F1 H1 n1 ry sl1 wf1 ex1
  obtain ⟨z, ez, q2⟩ := Mt_lift q0
  cases y with
  | str s =>
    have hns := T.ns s
    have ez' : tb.lookup s = some z := ez
    rw [ez'] at hns
    obtain ⟨u, v', e1, r, hr⟩ := hns
    obtain ⟨es, n2, us, hl, hk2, _⟩ := T.ex
    exact ⟨a, s, v', rfl, ry, ⟨es, n2, u, hl, hk2, e1, r⟩, q2 _ F1 H1 n1 (hr F1 H1) sl1 wf1 ex1⟩
  | _ => cases ez
/-- a text that the module keeps -/
theorem e_globS {s : Str} (hm : ∃ t, C.X.mg x = some (.str s t)) (hg : Gl C.X x) (hd : (x == ("__debug__" : Str)) = false := by decide) : DE C (.Name x pos) (ret (.str s)) := by
  obtain ⟨t, hm⟩ := hm
  exact e_glob (v := .str s) hg hm ⟨t, rfl⟩ (fun _ _ => rfl) hd
def dstrs : List D → Option (List Str)
  | [] => some []
  | .str x :: r => (dstrs r).map (x :: ·)
  | _ :: _ => none
theorem dstrs_ok {K : PySem.W.Frag} {cl : Nat → Addr} {F : Addr → Prop} {H : Hp} : ∀ {ds : List D} {ys : List Str} {vs : List V}, dstrs ds = some ys → RL K cl F H ds vs → vs = ys.map V.str
  | [], ys, vs, e, h => by cases e; exact h
  | d :: ds, ys, vs, e, ⟨v, us, e1, hd, hr⟩ => by
    cases d with
    | str x =>
      unfold dstrs at e
      cases q : dstrs ds with
      | none => rw [q] at e; cases e
      | some zs =>
        rw [q] at e
        cases e
        rw [e1, dstrs_ok q hr, show v = V.str x from hd]
        rfl
    | _ => cases e
def joinG (a : Str) (ds : List D) : Option D := match dstrs ds with
  | some ys => if (ys.map (·.length)).sum + ys.length * a.length ≤ 16777216 then some (.str (Txt.join a ys)) else none
  | none => none
def gjoin (a : Str) : D → Option D
  | .lst ds => joinG a ds
  | .tup ds => joinG a ds
  | _ => none
def joinD (a b : M D) : M D := bnd a fun x => match x with
  | .str s => bnd b fun y => lift (gjoin s y)
  | _ => stuck
theorem e_join {o : Expr} {da : M D} {apos : Pos} (ho : DE C o da) (he : DE C e d) (hs : starEach [e] C.X.env = [(false, eval e C.X.env)] := by rfl) (hbase : attributeBase o "join" C.X.env (eval o C.X.env) = eval o C.X.env := by rfl) (hline : (apos.endLine == pos.line) = true := by rfl) :
    DE C (.Call (.Attribute o "join" apos) [e] [] pos) (joinD da d) := by
  refine PE.imp (pe_join ho he hs hbase hline) fun σ H Q ⟨F, ρ, n, sl, wf, q⟩ => ?_
  refine ⟨F, ρ, n, sl, wf, q.bnd.imp fun x ρ1 q0 => ?_⟩
  intro v F1 H1 n1 rx sl1 wf1 ex1
  cases x with
  | str s =>
    refine ⟨⟨s, rx⟩, F1, ρ1, n1, sl1, wf1, q0.bnd.step wf ex1 fun y ρ2 q1 => ?_⟩
    intro u F2 H2 n2 ry sl2 wf2 ex2
    obtain ⟨z, ez, q2⟩ := Mt_lift q1
    have fin : ∀ ds p vs, joinG s ds = some z → RL C.X.K C.cl F2 H2 ds vs → u = .ref p → (SqL C.X.K H2 p vs ∨ SqT C.X.K H2 p vs) → ∃ a p', ∃ ys : List Str, v = .str a ∧ [u] = [V.ref p'] ∧ (SqL C.X.K H2 p' (ys.map V.str) ∨ SqT C.X.K H2 p' (ys.map V.str)) ∧ (ys.map (·.length)).sum + ys.length * a.length ≤ 16777216 ∧ Q (.str (Txt.join a ys)) H2 := by
      intro ds p vs ej hr eu hq
      unfold joinG at ej
      cases hd : dstrs ds with
      | none => rw [hd] at ej; cases ej
      | some ys =>
        rw [hd] at ej
        dsimp only at ej
        split at ej
        · rename_i hz
          cases ej
          refine ⟨s, p, ys, rx, by rw [eu], ?_, hz, q2 _ F2 H2 n2 rfl sl2 wf2 (ex1.trans wf ex2)⟩
          rw [← dstrs_ok hd hr]
          exact hq
        · cases ej
    cases y with
    | lst ds => obtain ⟨p, vs, eu, _, hp, hr⟩ := ry; exact fin ds p vs ez hr eu (.inl (SqL.of hp))
    | tup ds => obtain ⟨p, vs, eu, hp, hr⟩ := ry; exact fin ds p vs ez hr eu (.inr (hp.imp (·.2) id))
    | _ => cases ez
  | _ => exact q0.elim
def gstr2 : D → Option D
  | .str x => some (.str x)
  | d => gstr d
theorem d_str2 {X : Cx} {cl : Nat → Addr} : CallR X (.type "str") (opRL X.K cl (f1 gstr2)) := by
  intro pins s σ' H vs us Q I r h
  obtain ⟨F, n, σ, ρ, xs, z, rs, sl, wf, e, q⟩ := id h
  obtain ⟨x, rfl, g1⟩ := f1_of e
  obtain ⟨v, rfl, rx⟩ := rs.one
  by_cases hx : ∃ s, x = .str s
  · obtain ⟨t, rfl⟩ := hx
    cases rx
    cases g1
    exact SkE.call_str_str pins s σ' H _ us Q I r ⟨t, rfl, q.here rfl sl wf⟩
  · have e2 : gstr x = some z := by cases x <;> first | exact g1 | exact absurd ⟨_, rfl⟩ hx
    exact d_str pins s σ' H _ us Q I r ⟨F, n, σ, ρ, [x], z, rs, sl, wf, e2, q⟩
end
end KR

set_option Elab.async false
set_option linter.all false
set_option maxRecDepth 100000
/-! Words for what is left: what the denotations compute. -/
namespace KR
open PySem L2
abbrev I (z : Int) : RV := .val (.int z)
/-- not too large to multiply -/
def sm (a : Int) : Prop := a.natAbs < 2 ^ 200
theorem sm_log {a : Int} (h : sm a) : a.natAbs.log2 < 200 := by
  by_cases h0 : a.natAbs = 0
  · rw [h0]; decide
  · exact (Nat.log2_lt h0).mpr h
theorem mul_ok {a b : Int} (ha : sm a) (hb : sm b) : a.natAbs.log2 + b.natAbs.log2 < 1000000 := by
  have := sm_log ha
  have := sm_log hb
  omega
theorem div_ok {b : Int} (h : 0 < b) (hb : sm b) : 0 < b ∧ b.natAbs.log2 < 9000 := ⟨h, by have := sm_log hb; omega⟩
@[simp] theorem gmul_sm {a b : Int} (ha : sm a) (hb : sm b) : gmul (.int a) (.int b) = some (.int (a * b)) := if_pos (.inl (mul_ok ha hb))
theorem gmul_l {a b : Int} (h : -(2 ^ 64) < a ∧ a < 2 ^ 64) : gmul (.int a) (.int b) = some (.int (a * b)) := if_pos (.inr (.inl h))
@[simp] theorem gmul_two {b : Int} : gmul (.int 2) (.int b) = some (.int (2 * b)) := gmul_l (by decide)
@[simp] theorem gdiv_sm {a b : Int} (h : 0 < b) (hb : sm b) : gdiv (.int a) (.int b) = some (.int (a / b)) := if_pos (div_ok h hb)
@[simp] theorem gmod_pos {a b : Int} (h : 0 < b) : gmod (.int a) (.int b) = some (.int (a % b)) := if_pos h
theorem abs_mul_le {a b : Int} {A B : Nat} (ha : a.natAbs ≤ A) (hb : b.natAbs ≤ B) : (a * b).natAbs ≤ A * B := by rw [Int.natAbs_mul]; exact Nat.mul_le_mul ha hb
/-- what a while loop computes -/
theorem swhile_eq {t : M Bool} {b : S} {lk : List Nat} {ρ : Env} {k : Nat} {r : Except XV Fl × Env} (h : whileN t b k lk ρ = some r) : swhile t b lk ρ = some r := swhile_of h
@[simp] theorem gix_tup {xs : List D} {i : Int} : gix (.tup xs) (.int i) = atI xs i := rfl
@[simp] theorem gix_lst {xs : List D} {i : Int} : gix (.lst xs) (.int i) = atI xs i := rfl
theorem atI_nat {xs : List D} {i : Nat} (h : i < xs.length) : atI xs (i : Int) = some xs[i] := by
  unfold atI ixN
  rw [if_pos (by omega), if_pos (by omega)]
  simp
theorem atI_int {xs : List D} {i : Int} (h0 : 0 ≤ i) (h : i < xs.length) : atI xs i = some (xs[i.toNat]'(by omega)) := by
  have := atI_nat (xs := xs) (i := i.toNat) (by omega)
  rwa [Int.toNat_of_nonneg h0] at this
@[simp] theorem atI_zero {x : D} {xs : List D} : atI (x :: xs) 0 = some x := atI_nat (i := 0) (by simp)
@[simp] theorem atI_one {x y : D} {xs : List D} : atI (x :: y :: xs) 1 = some y := atI_nat (i := 1) (by simp)
theorem atI_last {xs : List D} {x : D} : atI (xs ++ [x]) (-1) = some x := by
  unfold atI ixN
  rw [if_neg (by decide), if_pos (by rw [List.length_append, List.length_singleton]; omega), List.length_append, List.length_singleton]
  have : ((-1 : Int) + ((xs.length + 1 : Nat) : Int)).toNat = xs.length := by omega
  show (xs ++ [x])[((-1 : Int) + ((xs.length + 1 : Nat) : Int)).toNat]? = _
  rw [this]
  simp
theorem whileN_step {t : M Bool} {b : S} {k : Nat} {lk : List Nat} {ρ ρ1 ρ2 : Env} (ht : t ρ = some (.ok true, ρ1)) (hb : b lk ρ1 = some (.ok .nx, ρ2)) : whileN t b (k + 1) lk ρ = whileN t b k lk ρ2 := by
  rw [whileN, sbnd, ht]
  dsimp only
  rw [if_pos rfl, hb]
theorem whileN_done {t : M Bool} {b : S} {k : Nat} {lk : List Nat} {ρ ρ1 : Env} (ht : t ρ = some (.ok false, ρ1)) : whileN t b (k + 1) lk ρ = some (.ok .nx, ρ1) := by
  rw [whileN, sbnd, ht]
  rfl
section
variable {g : Gd} {b : S} {x : D} {xs : List D} {lk : List Nat} {ρ ρ1 ρ2 : Env}
theorem forL_nx (hg : g x lk ρ = some ρ1) (hb : b lk ρ1 = some (.ok .nx, ρ2)) : forL g b (x :: xs) lk ρ = forL g b xs lk ρ2 := by
  show (match g x lk ρ with | none => none | some ρ1 => _) = _
  rw [hg]
  dsimp only
  rw [hb]
theorem forL_bk (hg : g x lk ρ = some ρ1) (hb : b lk ρ1 = some (.ok .bk, ρ2)) : forL g b (x :: xs) lk ρ = some (.ok .nx, ρ2) := by
  show (match g x lk ρ with | none => none | some ρ1 => _) = _
  rw [hg]
  dsimp only
  rw [hb]
theorem forL_ret {r : RV} (hg : g x lk ρ = some ρ1) (hb : b lk ρ1 = some (.ok (.ret r), ρ2)) : forL g b (x :: xs) lk ρ = some (.ok (.ret r), ρ2) := by
  show (match g x lk ρ with | none => none | some ρ1 => _) = _
  rw [hg]
  dsimp only
  rw [hb]
theorem forL_nil : forL g b [] lk ρ = some (.ok .nx, ρ) := rfl
end
section
variable {α β : Type} {ρ : Env} {lk : List Nat}
@[simp] theorem bnd_ap {x : M α} {f : α → M β} : bnd x f ρ = match x ρ with
  | none => none
  | some (.error e, ρ') => some (.error e, ρ')
  | some (.ok a, ρ') => f a ρ' := rfl
@[simp] theorem ret_ap {a : α} : ret a ρ = some (.ok a, ρ) := rfl
@[simp] theorem lift_ap {o : Option α} : lift o ρ = match o with
  | none => none
  | some a => some (.ok a, ρ) := rfl
@[simp] theorem stuck_ap : (stuck : M α) ρ = none := rfl
@[simp] theorem frz_ap {d : M RV} : frz d ρ = bnd d (fun r => ret r.fr) ρ := rfl
@[simp] theorem val_ap {d : M D} : val d ρ = bnd d (fun r => ret (RV.val r)) ρ := rfl
@[simp] theorem getv_ap {i : Nat} : getv i ρ = match ρ[i]? with
  | some (some (.val d)) => some (.ok d, ρ)
  | some (some (.otup xs)) => some (.ok (.tup xs), ρ)
  | some (some r) => some (.ok r.fr, ρ.set i (some (.val r.fr)))
  | _ => none := rfl
@[simp] theorem bin_ap {g : D → D → Option D} {a b : M D} : bin g a b ρ = bnd a (fun x => bnd b fun y => lift (g x y)) ρ := rfl
@[simp] theorem una_ap {g : D → Option D} {a : M D} : una g a ρ = bnd a (fun x => lift (g x)) ρ := rfl
@[simp] theorem cal_ap {g : List D → Option D} {a : M (List D)} : cal g a ρ = bnd a (fun x => lift (g x)) ρ := rfl
@[simp] theorem tst_ap {d : M D} : tst d ρ = bnd d (fun z => lift (asB z)) ρ := rfl
@[simp] theorem tstV_ap {d : M D} : tstV d ρ = bnd d (fun z => lift (tru z)) ρ := rfl
@[simp] theorem tnot_ap {d : M Bool} : tnot d ρ = bnd d (fun b => ret (!b)) ρ := rfl
@[simp] theorem tand_ap {a b : M Bool} : tand a b ρ = bnd a (fun x => if x = true then b else ret false) ρ := rfl
@[simp] theorem tor_ap {a b : M Bool} : tor a b ρ = bnd a (fun x => if x = true then ret true else b) ρ := rfl
@[simp] theorem vand_ap {a b : M D} : vand a b ρ = bnd a (fun x => bnd (lift (asB x)) fun k => if k = true then b else ret (.bl false)) ρ := rfl
@[simp] theorem vor_ap {a b : M D} : vor a b ρ = bnd a (fun x => bnd (lift (asB x)) fun k => if k = true then ret (.bl true) else b) ρ := rfl
@[simp] theorem ite_ap {t : M Bool} {a b : M α} : ite' t a b ρ = bnd t (fun k => if k = true then a else b) ρ := rfl
@[simp] theorem par_ap {d : M D} : par d ρ = bnd d (fun x => bnd (lift (asI x)) fun i => ret (some i)) ρ := rfl
@[simp] theorem cut_ap {d : M D} {lo hi : M (Option Int)} : cut d lo hi ρ = bnd d (fun x => bnd lo fun i => bnd hi fun j => lift (gsl i j x)) ρ := rfl
@[simp] theorem acons_ap {d : M D} {ds : M (List D)} : acons d ds ρ = bnd d (fun x => bnd ds fun xs => ret (x :: xs)) ρ := rfl
@[simp] theorem dtup_ap {ds : M (List D)} : dtup ds ρ = bnd ds (fun xs => lift (if xs.length ≤ sizeLine then some (.tup xs) else none)) ρ := rfl
@[simp] theorem dlst_ap {ds : M (List D)} : dlst ds ρ = bnd ds (fun xs => lift (if xs.length ≤ sizeLine then some (RV.olst xs) else none)) ρ := rfl
@[simp] theorem its_ap {d : M D} : its d ρ = bnd d (fun x => lift (itemsD x)) ρ := rfl
@[simp] theorem icl_ap {g : List D → Option (List D)} {a : M (List D)} : icl g a ρ = bnd a (fun x => lift (g x)) ρ := rfl
@[simp] theorem sbnd_ap {x : M α} {f : α → S} : sbnd x f lk ρ = match x ρ with
  | none => none
  | some (.error e, ρ') => some (.error e, ρ')
  | some (.ok a, ρ') => f a lk ρ' := rfl
@[simp] theorem skip_ap : skip lk ρ = some (.ok .nx, ρ) := rfl
@[simp] theorem fl_ap {f : Fl} : fl f lk ρ = some (.ok f, ρ) := rfl
@[simp] theorem seq_ap {a b : S} : seq a b lk ρ = match a lk ρ with
  | some (.ok .nx, ρ') => b lk ρ'
  | o => o := rfl
@[simp] theorem sput_ap {i : Nat} {r : RV} : sput i r lk ρ = if i < ρ.length ∧ i ∉ lk then some (.ok .nx, ρ.set i (some r)) else none := rfl
@[simp] theorem sset_ap {i : Nat} {d : M RV} : sset i d lk ρ = sbnd d (fun r => sput i r) lk ρ := rfl
@[simp] theorem sret_ap {d : M RV} : sret d lk ρ = sbnd d (fun r => fl (.ret r)) lk ρ := rfl
@[simp] theorem sif_ap {t : M Bool} {a b : S} : sif t a b lk ρ = sbnd t (fun k => if k = true then a else b) lk ρ := rfl
@[simp] theorem sdo_ap {d : M α} : sdo d lk ρ = sbnd d (fun _ => skip) lk ρ := rfl
@[simp] theorem gnm_ap {i : Nat} {x : D} : gnm i x lk ρ = if i < ρ.length ∧ i ∉ lk then some (ρ.set i (some (.val x))) else none := rfl
@[simp] theorem gsn_ap {xs : List D} : gsn xs lk ρ = match xs with | [] => some ρ | _ => none := rfl
@[simp] theorem gsc_ap {g : Gd} {gs : Gds} {x : D} {xs : List D} : gsc g gs (x :: xs) lk ρ = match g x lk ρ with
  | none => none
  | some ρ' => gs xs lk ρ' := rfl
@[simp] theorem gtp_ap {k : Nat} {gs : Gds} {xs : List D} : gtp k gs (.tup xs) lk ρ = if xs.length = k then gs xs lk ρ else none := rfl
@[simp] theorem sasg_ap {g : Gd} {d : M D} : sasg g d lk ρ = sbnd d (fun x => fun lk ρ => (g x lk ρ).map fun ρ' => (.ok .nx, ρ')) lk ρ := rfl
@[simp] theorem spar_ap {i j : Nat} {d : M (List D)} : spar i j d lk ρ = sbnd d (fun xs => fun lk ρ => match xs with
  | [x, y] => if i < ρ.length ∧ j < ρ.length ∧ i ∉ lk ∧ j ∉ lk then some (.ok .nx, (ρ.set i (some (.val x))).set j (some (.val y))) else none
  | _ => none) lk ρ := rfl
@[simp] theorem gaug_ap {g : D → D → Option D} {i : Nat} {d : M D} : gaug g i d lk ρ = match ρ[i]? with
  | some (some (.val x)) => (sbnd d fun y => sbnd (lift (g x y)) fun z => sput i (.val z)) lk ρ
  | _ => none := rfl
@[simp] theorem sfor_ap {g : Gd} {it : M (List D)} {b : S} : sfor g it b lk ρ = sbnd it (fun xs => forL g b xs) lk ρ := rfl
@[simp] theorem apnd_ap {i : Nat} {d : M D} : apnd i d ρ = match ρ[i]? with
  | some (some (.olst _)) => (bnd d fun x => fun ρ => match ρ[i]? with
    | some (some (.olst xs)) => if xs.length < sizeLine then some (.ok .non, ρ.set i (some (.olst (xs ++ [x])))) else none
    | _ => none) ρ
  | _ => none := rfl
@[simp] theorem ocall_ap {f : Cl} {np : Nat} {das : M (List Ag)} : ocall f np das ρ = bnd das (fun as => if as.length = np then callD f as else stuck) ρ := rfl
@[simp] theorem callD_ap {f : Cl} {as : List Ag} : callD f as ρ = match takeA as ρ with
  | none => none
  | some (rs, ρ1) => match f rs with
    | none => none
    | some (x, rs') => if rs'.length = rs.length then some (x, putA as rs' ρ1) else none := rfl
@[simp] theorem cval_ap {d : M D} {ds : M (List Ag)} : cval d ds ρ = bnd d (fun x => bnd ds fun xs => ret (.inr x :: xs)) ρ := rfl
@[simp] theorem clend_ap {i : Nat} {ds : M (List Ag)} : clend i ds ρ = match ρ[i]? with
  | some (some _) => (bnd ds fun xs => ret (.inl i :: xs)) ρ
  | _ => none := rfl
@[simp] theorem lenv_ap {i : Nat} : lenv i ρ = match ρ[i]? with
  | some (some (.olst xs)) => some (.ok (.int xs.length), ρ)
  | some (some (.val x)) => match glen x with
    | some z => some (.ok z, ρ)
    | none => none
  | _ => none := rfl
@[simp] theorem seti_ap {i : Nat} {k d : M D} : seti i k d lk ρ = sbnd d (fun x => fun lk ρ => match ρ[i]? with
  | some (some (.olst _)) => (sbnd k fun j => fun _ ρ => match ρ[i]?, j with
    | some (some (.olst xs)), .int z => match ixN xs.length z with
      | some m => some (.ok .nx, ρ.set i (some (.olst (xs.set m x))))
      | none => none
    | _, _ => none) lk ρ
  | _ => none) lk ρ := rfl
@[simp] theorem ixv_ap {i : Nat} {k : M D} : ixv i k ρ = match ρ[i]? with
  | some (some _) => (bnd k fun j => fun ρ => match ρ[i]?, j with
    | some (some (.olst xs)), .int z => match atI xs z with
      | some d => some (.ok d, ρ)
      | none => none
    | some (some (.val x)), j => match gix x j with
      | some d => some (.ok d, ρ)
      | none => none
    | _, _ => none) ρ
  | _ => none := rfl
theorem lcomp_ap {vs : List Nat} {it : M (List D)} {g : Gd} {t : M Bool} {elt : M D} : lcomp vs it g t elt ρ = bnd it (fun xs => fun ρ =>
  if okW ρ vs = true ∧ xs.length ≤ sizeLine then
    match compL g t elt vs ρ.length xs [] (wipeE ρ vs) with
    | some (ys, ρ2) => if okW ρ2 vs = true then some (.ok (.olst ys), restE ρ2 ρ vs) else none
    | none => none
  else none) ρ := rfl
@[simp] theorem f1_ap {g : D → Option D} {x : D} : f1 g [x] = g x := rfl
@[simp] theorem f2_ap {g : D → D → Option D} {x y : D} : f2 g [x, y] = g x y := rfl
@[simp] theorem gadd_ap {a b : Int} : gadd (.int a) (.int b) = some (.int (a + b)) := rfl
@[simp] theorem gsub_ap {a b : Int} : gsub (.int a) (.int b) = some (.int (a - b)) := rfl
@[simp] theorem gneg_ap {a : Int} : gneg (.int a) = some (.int (-a)) := rfl
@[simp] theorem glt_ap {a b : Int} : glt (.int a) (.int b) = some (.bl (decide (a < b))) := rfl
@[simp] theorem gle_ap {a b : Int} : gle (.int a) (.int b) = some (.bl (decide (a ≤ b))) := rfl
@[simp] theorem ggt_ap {a b : Int} : ggt (.int a) (.int b) = some (.bl (decide (b < a))) := rfl
@[simp] theorem gge_ap {a b : Int} : gge (.int a) (.int b) = some (.bl (decide (b ≤ a))) := rfl
@[simp] theorem geq_ap {a b : Int} : geq (.int a) (.int b) = some (.bl (decide (a = b))) := rfl
@[simp] theorem gne_ap {a b : Int} : gne (.int a) (.int b) = some (.bl (!decide (a = b))) := rfl
@[simp] theorem asB_ap {k : Bool} : asB (.bl k) = some k := rfl
@[simp] theorem tru_ap {k : Bool} : tru (.bl k) = some k := rfl
@[simp] theorem gint_ap {a : Int} : gint (.int a) = some (.int a) := rfl
@[simp] theorem gint_bl {a : Bool} : gint (.bl a) = some (.int (if a then 1 else 0)) := rfl
@[simp] theorem glen_tup {xs : List D} : glen (.tup xs) = some (.int xs.length) := rfl
@[simp] theorem glen_lst {xs : List D} : glen (.lst xs) = some (.int xs.length) := rfl
@[simp] theorem items_tup {xs : List D} : itemsD (.tup xs) = some xs := rfl
@[simp] theorem items_lst {xs : List D} : itemsD (.lst xs) = some xs := rfl
@[simp] theorem items_lsr {xs : List D} : itemsD (.lsr xs) = some xs := rfl
@[simp] theorem fr_val {d : D} : (RV.val d).fr = d := rfl
@[simp] theorem fr_olst {xs : List D} : (RV.olst xs).fr = .lst xs := rfl
@[simp] theorem isVal_val {d : D} : isVal (.val d) = true := rfl
@[simp] theorem isVal_otup {xs : List D} : isVal (.otup xs) = true := rfl
@[simp] theorem fr_otup {xs : List D} : (RV.otup xs).fr = .tup xs := rfl
@[simp] theorem isVal_olst {xs : List D} : isVal (.olst xs) = false := rfl
@[simp] theorem size_line : sizeLine = 16777216 := by decide
end
theorem oth_not {N v : Nat} : v ∉ oth N [v] := by
  unfold oth
  intro h
  have := (List.mem_filter.mp h).2
  simp at this
theorem compL_pure {t : M Bool} {elt : M D} {p : D → Bool} {f : D → D} {v : Nat} {ρ : Env} (hv : v < ρ.length) (hw : ρ[v]? = some none) : ∀ (xs acc : List D), (∀ x ∈ xs, t (ρ.set v (some (.val x))) = some (.ok (p x), ρ.set v (some (.val x)))) →
    (∀ x ∈ xs, p x = true → elt (ρ.set v (some (.val x))) = some (.ok (f x), ρ.set v (some (.val x)))) → compL (gnm v) t elt [v] ρ.length xs acc ρ = some (acc ++ (xs.filter p).map f, ρ)
  | [], acc, _, _ => by simp [compL]
  | x :: xs, acc, ht, he => by
    have hg : gnm v x (oth ρ.length [v]) ρ = some (ρ.set v (some (.val x))) := if_pos ⟨hv, oth_not⟩
    have hk : okW (ρ.set v (some (.val x))) [v] = true := by simp [okW, plainS, List.getElem?_set_self hv]
    have hx : wipeE (ρ.set v (some (.val x))) [v] = ρ := by
      show (ρ.set v (some (.val x))).set v none = ρ
      rw [List.set_set]
      obtain ⟨h1, h2⟩ := List.getElem?_eq_some_iff.mp hw
      rw [← h2]
      exact List.set_getElem_self h1
    have ih := fun acc => compL_pure hv hw (p := p) (f := f) xs acc (fun y h => ht y (List.mem_cons_of_mem _ h)) fun y h => he y (List.mem_cons_of_mem _ h)
    have h1 := ht x List.mem_cons_self
    rw [compL, hg]
    dsimp only
    rw [if_pos (by rw [List.length_set]), h1]
    cases hp : p x with
    | true =>
      dsimp only
      rw [he x List.mem_cons_self hp]
      dsimp only
      rw [if_pos hk, hx, ih, List.filter_cons_of_pos hp, List.map_cons, List.append_assoc]
      rfl
    | false =>
      dsimp only
      rw [if_pos hk, hx, ih, List.filter_cons_of_neg (by rw [hp]; exact Bool.false_ne_true)]
theorem lcomp_pure {it : M (List D)} {t : M Bool} {elt : M D} {p : D → Bool} {f : D → D} {v : Nat} {ρ0 ρ : Env} {xs : List D} (hi : it ρ0 = some (.ok xs, ρ)) (hv : v < ρ.length) (hk : okW ρ [v] = true) (hl : xs.length ≤ sizeLine)
    (ht : ∀ x ∈ xs, t (ρ.set v (some (.val x))) = some (.ok (p x), ρ.set v (some (.val x)))) (he : ∀ x ∈ xs, p x = true → elt (ρ.set v (some (.val x))) = some (.ok (f x), ρ.set v (some (.val x)))) :
    lcomp [v] it (gnm v) t elt ρ0 = some (.ok (.olst ((xs.filter p).map f)), ρ) := by
  have e := compL_pure (ρ := ρ.set v none) (t := t) (elt := elt) (p := p) (f := f) (v := v) (by rw [List.length_set]; exact hv) (List.getElem?_set_self hv) xs [] (fun x h => by rw [List.set_set]; exact ht x h) fun x h q => by rw [List.set_set]; exact he x h q
  rw [List.length_set] at e
  rw [lcomp_ap, bnd_ap, hi]
  dsimp only
  have hw : wipeE ρ [v] = ρ.set v none := rfl
  rw [if_pos ⟨hk, hl⟩, hw, e]
  dsimp only
  have hk2 : okW (ρ.set v none) [v] = true := by simp [okW, plainS, List.getElem?_set_self hv]
  rw [if_pos hk2]
  have hr : restE (ρ.set v none) ρ [v] = ρ := by
    show (ρ.set v none).set v (ρ.getD v none) = ρ
    rw [List.set_set, List.getD_eq_getElem?_getD, List.getElem?_eq_getElem hv]
    exact List.set_getElem_self hv
  rw [hr]
  rfl
@[simp] theorem gtup_lst {xs : List D} : gtup (.lst xs) = some (.tup xs) := rfl
@[simp] theorem gtup_tup {xs : List D} : gtup (.tup xs) = some (.tup xs) := rfl
theorem gadd_lst {a b : List D} (h : a.length + b.length ≤ 16777216) : gadd (.lst a) (.lst b) = some (.lst (a ++ b)) := if_pos (by rw [size_line]; exact h)
/-! ### texts -/
def S' (l : List Nat) : Str := ⟨l.toArray⟩
theorem S_len {l : List Nat} : (S' l).length = l.length := by simp [S', Str.length]
theorem S_toList (x : Str) : S' x.cps.toList = x := by cases x; simp [S']
theorem S_inj {a b : List Nat} : S' a = S' b ↔ a = b := by simp [S']
theorem S_app {a b : List Nat} : S' a ++ S' b = S' (a ++ b) := by
  show (⟨a.toArray ++ b.toArray⟩ : Str) = ⟨(a ++ b).toArray⟩
  simp
@[simp] theorem geq_str {a b : Str} : geq (.str a) (.str b) = some (.bl (decide (a = b))) := rfl
@[simp] theorem gne_str {a b : Str} : gne (.str a) (.str b) = some (.bl (!decide (a = b))) := rfl
theorem glen_S {l : List Nat} (h : l.length ≤ 16777216) : glen (.str (S' l)) = some (.int l.length) := by
  unfold glen
  dsimp only
  rw [S_len, if_pos (by rw [size_line]; exact h)]
theorem gadd_S {a b : List Nat} (h : a.length + b.length ≤ 16777216) : gadd (.str (S' a)) (.str (S' b)) = some (.str (S' (a ++ b))) := by
  unfold gadd
  dsimp only
  rw [S_len, S_len, if_pos (by rw [size_line]; exact h), S_app]
theorem gix_S {X : List Nat} {i c : Nat} {r : List Nat} (hd : X.drop i = c :: r) (h : X.length ≤ 16777216) : gix (.str (S' X)) (.int i) = some (.str (S' [c])) := by
  have hi : i < X.length := by
    have := congrArg List.length hd
    rw [List.length_drop, List.length_cons] at this
    omega
  have hx : X[i]? = some c := by
    have := congrArg List.head? hd
    rw [List.head?_drop] at this
    simpa using this
  unfold gix
  dsimp only
  rw [S_len, if_pos (by rw [size_line]; exact h)]
  unfold atI ixN
  have e : (S' X).cps.toList = X := by simp [S']
  rw [e, if_pos (by omega), if_pos (by omega)]
  simp [hx]
  rfl
theorem gsl_S {X a r : List Nat} {i j : Nat} (hd : X.drop i = a ++ r) (hj : j = i + a.length) (hi : i ≤ X.length) (h : X.length ≤ 16777216) : gsl (some (i : Int)) (some (j : Int)) (.str (S' X)) = some (.str (S' a)) := by
  unfold gsl
  dsimp only
  rw [S_len, if_pos (by rw [size_line]; exact h)]
  have hl := congrArg List.length hd
  rw [List.length_drop, List.length_append] at hl
  have e : (S' X).cps.toList = X := by simp [S']
  unfold cutS
  rw [e, S_len, HT.sIx_nat, HT.sIx_nat, Nat.min_eq_left hi, hd, Nat.min_eq_left (by omega), hj]
  have : i + a.length - i = a.length := by omega
  rw [this, List.take_left']
  · rfl
  · rfl
theorem gin_S {c : Nat} {x : Str} : gin (.str (S' [c])) (.str x) = some (.bl (decide (c ∈ x.cps.toList))) := by
  show (match (S' [c]).cps.toList with | [c] => some (decide (c ∈ x.cps.toList)) | _ => none).map D.bl = _
  simp [S']
theorem gin_strs {x : Str} {ys : List Str} : gin (.str x) (.tup (ys.map .str)) = some (.bl (decide (x ∈ ys))) := by
  show (dinL (.str x) (ys.map .str)).map D.bl = _
  unfold dinL
  have h : (ys.map D.str).all isfl = true := by
    rw [List.all_map, List.all_eq_true]
    intro y _
    rfl
  rw [if_pos ⟨rfl, h⟩]
  refine congrArg (fun b => some (D.bl b)) ?_
  rw [List.any_map]
  induction ys with
  | nil => rfl
  | cons y ys ih =>
    rw [List.any_cons, ih (by rw [List.map_cons, List.all_cons, Bool.and_eq_true] at h; exact h.2)]
    show ((y == x) || _) = _
    by_cases e : y = x
    · subst e; simp
    · have e' : ¬ x = y := fun q => e q.symm
      have e2 : (y == x) = false := beq_eq_false_iff_ne.mpr e
      simp [e', e2]
theorem adv {X a b : List Nat} {i : Nat} (h : X.drop i = a ++ b) : X.drop (i + a.length) = b := by
  rw [← List.drop_drop, h, List.drop_left']
  rfl
theorem adv_le {X a b : List Nat} {i : Nat} (h : X.drop i = a ++ b) (hi : i ≤ X.length) : i + a.length ≤ X.length := by
  have hl := congrArg List.length h
  rw [List.length_drop, List.length_append] at hl
  omega
/-- one test and one value an item -/
inductive All2 (P : D → Option D → Prop) : List D → List (Option D) → Prop
  | nil : All2 P [] []
  | cons {x : D} {r : Option D} {xs : List D} {rs : List (Option D)} : P x r → All2 P xs rs → All2 P (x :: xs) (r :: rs)
theorem lcomp_rel {it : M (List D)} {t : M Bool} {elt : M D} {v : Nat} {ρ0 ρ : Env} {xs : List D} {rs : List (Option D)} (hi : it ρ0 = some (.ok xs, ρ)) (hv : v < ρ.length) (hk : okW ρ [v] = true) (hl : xs.length ≤ sizeLine)
    (ha : All2 (fun x r => t (ρ.set v (some (.val x))) = some (.ok r.isSome, ρ.set v (some (.val x))) ∧ ∀ y, r = some y → elt (ρ.set v (some (.val x))) = some (.ok y, ρ.set v (some (.val x)))) xs rs) :
    lcomp [v] it (gnm v) t elt ρ0 = some (.ok (.olst (rs.filterMap id)), ρ) := by
  have go : ∀ {xs : List D} {rs : List (Option D)} (acc : List D), All2 (fun x r => t (ρ.set v (some (.val x))) = some (.ok r.isSome, ρ.set v (some (.val x))) ∧ ∀ y, r = some y → elt (ρ.set v (some (.val x))) = some (.ok y, ρ.set v (some (.val x)))) xs rs →
      compL (gnm v) t elt [v] ρ.length xs acc (ρ.set v none) = some (acc ++ rs.filterMap id, ρ.set v none) := by
    intro xs rs acc h
    induction h generalizing acc with
    | nil => simp [compL]
    | @cons x r xs rs hp hr ih =>
      have hv' : v < (ρ.set v none).length := by rw [List.length_set]; exact hv
      have hg : gnm v x (oth ρ.length [v]) (ρ.set v none) = some (ρ.set v (some (.val x))) := by
        show (if v < (ρ.set v none).length ∧ v ∉ oth ρ.length [v] then some ((ρ.set v none).set v (some (.val x))) else none) = _
        rw [if_pos ⟨hv', oth_not⟩, List.set_set]
      have hk : okW (ρ.set v (some (.val x))) [v] = true := by simp [okW, plainS, List.getElem?_set_self hv]
      have hx : wipeE (ρ.set v (some (.val x))) [v] = ρ.set v none := by
        show (ρ.set v (some (.val x))).set v none = ρ.set v none
        rw [List.set_set]
      rw [compL, hg]
      dsimp only
      rw [if_pos (by rw [List.length_set]), hp.1]
      cases r with
      | some y =>
        dsimp only [Option.isSome]
        rw [hp.2 y rfl]
        dsimp only
        rw [if_pos hk, hx, ih, List.filterMap_cons_some (by rfl), List.append_assoc]
        rfl
      | none =>
        dsimp only [Option.isSome]
        rw [if_pos hk, hx, ih, List.filterMap_cons_none (by rfl)]
  have e := go [] ha
  rw [lcomp_ap, bnd_ap, hi]
  dsimp only
  have hw : wipeE ρ [v] = ρ.set v none := rfl
  rw [if_pos ⟨hk, hl⟩, hw, e]
  dsimp only
  have hk2 : okW (ρ.set v none) [v] = true := by simp [okW, plainS, List.getElem?_set_self hv]
  rw [if_pos hk2]
  have hr : restE (ρ.set v none) ρ [v] = ρ := by
    show (ρ.set v none).set v (ρ.getD v none) = ρ
    rw [List.set_set, List.getD_eq_getElem?_getD, List.getElem?_eq_getElem hv]
    exact List.set_getElem_self hv
  rw [hr]
  rfl
theorem icl_ok {g : List D → Option (List D)} {a : M (List D)} {ρ ρ' : Env} {as R : List D} (ha : a ρ = some (.ok as, ρ')) (hg : g as = some R) : icl g a ρ = some (.ok R, ρ') := by
  rw [icl_ap, bnd_ap, ha]
  dsimp only
  rw [lift_ap, hg]
@[simp] theorem ofString_inj {a b : String} : (Str.ofString a = Str.ofString b) ↔ a = b := by
  refine ⟨fun h => ?_, fun h => by rw [h]⟩
  rw [Str.ofString_eq_toList, Str.ofString_eq_toList] at h
  have h2 : a.toList.map Char.toNat = b.toList.map Char.toNat := by
    have := congrArg (fun s : Str => s.cps.toList) h
    simpa using this
  have h3 : a.toList = b.toList := by
    have inj : ∀ (l m : List Char), l.map Char.toNat = m.map Char.toNat → l = m := by
      intro l
      induction l with
      | nil => intro m h; cases m with
        | nil => rfl
        | cons y m => cases h
      | cons x l ih =>
        intro m h
        cases m with
        | nil => cases h
        | cons y m =>
          rw [List.map_cons, List.map_cons] at h
          injection h with h1 h2
          rw [ih m h2, Char.toNat_inj.mp h1]
    exact inj _ _ h2
  exact String.toList_inj.mp h3
end KR

set_option Elab.async false
set_option linter.all false
set_option maxRecDepth 100000
set_option maxHeartbeats 2000000
/-! Comprehensions of two sources (no tests). -/
namespace KR
open PySem L2
section
variable {K : PySem.W.Frag} {cl : Nat → Addr}
/-- the turns of one source, from where a list stands half made -/
theorem lc_turns {J : It} {xs : List D} {F0 : Addr → Prop} {H0 : Hp} (w0 : WalkD K cl J xs F0 H0) {σ : L2.St} {vs : List Nat} {N : Nat} (hN : N = σ.length) {Dl : Addr} {Fin : Hp → Prop} {g : Gd} {t : M Bool} {de : M D}
    {FA : Addr → Prop} {HA : Hp} {nA : Addr → Nat} {ρA : Env} {accA ys : List D} {avA : List V} {ρe : Env} (lA : Lat F0 H0 FA HA) (slA : SL K cl FA HA ρA (wipe σ vs) nA) (wfA : WF FA HA (fun a => one Dl a + nA a)) (hDA : HA Dl = some (.lst avA)) (rlA : RL K cl FA HA accA avA) (hsz : accA.length + xs.length ≤ sizeLine) (okA : okW ρA vs = true)
    (hr : compL g t de vs N xs accA ρA = some (ys, ρe))
    (fin : ∀ (F2 : Addr → Prop) (H2 : Hp) (n2 : Addr → Nat) (av2 : List V), Ext FA HA (fun a => one Dl a + nA a) F2 H2 (fun a => one Dl a + n2 a) → Lat F0 H0 F2 H2 → SL K cl F2 H2 ρe (wipe σ vs) n2 → WF F2 H2 (fun a => one Dl a + n2 a) → H2 Dl = some (.lst av2) → RL K cl F2 H2 ys av2 → Fin H2) :
    ∃ W : Nat → Nat → Hp → Prop, (∃ m, W 0 m HA) ∧ ∀ i m H, W i m H → (J.stop i H ∧ Fin H) ∨ (J.go i H ∧ ∃ Nx : Hp → Prop, (∀ H', Nx H' → ∃ m', m' < m ∧ W (i + 1) m' H') ∧ ∀ x H', J.yld i H x H' → tGt K cl (oth N vs) g x (wipe σ vs) H' fun σ2 H2 => wipe σ2 vs = wipe σ vs ∧ tT K cl (fun _ _ _ _ => False) t σ2 H2 fun b H3 =>
      if b = true then tE K cl (fun _ _ _ _ => False) de σ2 H3 fun y H4 => ∃ acc, H4 Dl = some (.lst acc) ∧ acc.length < sizeLine ∧ Nx (upd H4 Dl (.lst (acc ++ [y]))) else Nx H3) := by
  have hWL : (wipe σ vs).length = σ.length := wipe_length σ vs
  let Inv1 : Nat → Hp → Prop := fun i H1 => i ≤ xs.length ∧ ∃ (F1 : Addr → Prop) (ρ1 : Env) (n1 : Addr → Nat) (acc : List D) (av : List V), Lat F0 H0 F1 H1 ∧ SL K cl F1 H1 ρ1 (wipe σ vs) n1 ∧ WF F1 H1 (fun a => one Dl a + n1 a) ∧
    Ext FA HA (fun a => one Dl a + nA a) F1 H1 (fun a => one Dl a + n1 a) ∧ H1 Dl = some (.lst av) ∧ RL K cl F1 H1 acc av ∧ acc.length ≤ accA.length + i ∧ okW ρ1 vs = true ∧ compL g t de vs N (xs.drop i) acc ρ1 = some (ys, ρe)
  refine ⟨fun i k H1 => k = xs.length - i ∧ Inv1 i H1, ⟨xs.length, rfl, Nat.zero_le _, FA, ρA, nA, accA, avA, lA, slA, wfA, Ext.refl, hDA, rlA, Nat.le_refl _, okA, hr⟩, ?_⟩
  rintro i k H1 ⟨rfl, hi, F1, ρ1, n1, acc, av, l1, sl1, wf1, ex1, hD1, rl1, hacc, ok1, hc⟩
  have wn1 : WF F1 H1 n1 := wf1.sub fun a => by omega
  by_cases hlt : i < xs.length
  · refine .inr ⟨w0.goes i F1 H1 n1 hlt l1 wn1, Inv1 (i + 1), fun H' h => ⟨xs.length - (i + 1), by omega, rfl, h⟩, fun v H2 y => ?_⟩
    obtain ⟨dd, F2, hd, rd, wf2, ex2, sm2⟩ := w0.yields i F1 H1 n1 v H2 hlt l1 wn1 y
    have hdrop : xs.drop i = dd :: xs.drop (i + 1) := by
      rw [List.drop_eq_getElem_cons hlt]
      rw [List.getElem?_eq_getElem hlt] at hd
      rw [Option.some.inj hd]
    rw [hdrop] at hc
    have sl2 : SL K cl F2 H2 ρ1 (wipe σ vs) n1 := sl1.mono ex2.fz (frame_eq wn1 ex2) fun a ha => by
      cases z : H1 a with
      | none => exact absurd z (wn1.ho a ha)
      | some o => exact sm2 a o z
    unfold compL at hc
    cases hg : g dd (oth N vs) ρ1 with
    | none => rw [hg] at hc; cases hc
    | some ρ2 =>
      rw [hg] at hc
      dsimp only at hc
      by_cases hN2 : ρ2.length = N
      case neg => rw [if_neg hN2] at hc; cases hc
      rw [if_pos hN2] at hc
      refine ⟨F2, ρ1, n1, dd, ρ2, rd, sl2, wf2, hg, ?_⟩
      intro σ3 F3 H3 n3 sl3 wf3 ex3 lk3
      have hl3 : σ3.length = σ.length := by rw [SL.length sl3, hN2, hN]
      have hw3 : wipe σ3 vs = wipe σ vs := by
        rw [show wipe σ vs = wipe (wipe σ vs) vs from (wipe_eq hWL fun j hj _ => wipe_get vs j hj).symm]
        refine wipe_eq (by rw [hl3, hWL]) fun j hj hjl => lk3 j ?_
        unfold oth
        rw [List.mem_filter, List.mem_range, hN]
        exact ⟨by rw [hWL] at hjl; exact hjl, by simpa using hj⟩
      refine ⟨hw3, ?_⟩
      have ex13 := ex2.trans wn1 ex3
      obtain ⟨wp3, ep3, hD3⟩ := beside (K := K) (cl := cl) wf1 ex13 wf3 hD1
      have rl3 : RL K cl F3 H3 acc av := rl1.ext wn1 ex13
      -- the next turn's start
      have again : ∀ {F4 : Addr → Prop} {H4 : Hp} {n4 : Addr → Nat} {ρ4 : Env} {acc4 : List D} {av4 : List V}, WF F4 H4 (fun a => one Dl a + n4 a) → Ext F1 H1 (fun a => one Dl a + n1 a) F4 H4 (fun a => one Dl a + n4 a) → SL K cl F4 H4 ρ4 σ3 n4 → H4 Dl = some (.lst av4) → RL K cl F4 H4 acc4 av4 → acc4.length ≤ accA.length + (i + 1) → okW ρ4 vs = true →
          compL g t de vs N (xs.drop (i + 1)) acc4 (wipeE ρ4 vs) = some (ys, ρe) → Inv1 (i + 1) H4 := fun {F4 H4 n4 ρ4 acc4 av4} w4 e4 s4 h4 r4 l4 ok4 c4 => by
        have e04 := ex1.trans wfA e4
        refine ⟨hlt, F4, wipeE ρ4 vs, n4, acc4, av4, ⟨fun a h => e4.fz a (l1.1 a h), fun a h => (frame_eq wf1 e4 a (l1.1 a h)).trans (l1.2 a h)⟩, ?_, w4, e04, h4, r4, l4, okW_wipe ok4, c4⟩
        rw [← hw3]
        exact SL.wipe s4 ok4
      refine ⟨F3, ρ2, n3, sl3, wf3, ?_⟩
      unfold Mt
      cases ht : t ρ2 with
      | none => rw [ht] at hc; cases hc
      | some p =>
        obtain ⟨r, ρ3⟩ := p
        rw [ht] at hc
        cases r with
        | error x => cases hc
        | ok b =>
          intro F4 H4 n4 sl4 wf4 ex4
          obtain ⟨wp4, ep4, hD4⟩ := beside (K := K) (cl := cl) wp3 ex4 wf4 hD3
          cases b with
          | false =>
            rw [if_neg Bool.false_ne_true]
            dsimp only at hc
            by_cases ok3 : okW ρ3 vs = true
            · rw [if_pos ok3] at hc
              exact again wp4 (ep3.trans wf1 ep4) sl4 hD4 (rl3.ext wf3 ex4) (by omega) ok3 hc
            · rw [if_neg ok3] at hc
              cases hc
          | true =>
            rw [if_pos rfl]
            dsimp only at hc
            refine ⟨F4, ρ3, n4, sl4, wf4, ?_⟩
            unfold Mt
            cases he : de ρ3 with
            | none => rw [he] at hc; cases hc
            | some p =>
              obtain ⟨r, ρ4⟩ := p
              rw [he] at hc
              cases r with
              | error x => cases hc
              | ok y =>
                intro v5 F5 H5 n5 ry sl5 wf5 ex5
                dsimp only at hc
                by_cases ok4 : okW ρ4 vs = true
                · rw [if_pos ok4] at hc
                  obtain ⟨wp5, ep5, hD5⟩ := beside (K := K) (cl := cl) wp4 ex5 wf5 hD4
                  have rl5 : RL K cl F5 H5 acc av := (rl3.ext wf3 ex4).ext wf4 ex5
                  have lav : av.length = acc.length := rl5.length
                  refine ⟨av, hD5, by omega, ?_⟩
                  have nfD : ¬ F5 Dl := wp5.nf Dl (by unfold one; rw [if_pos rfl]; omega)
                  have n5D : n5 Dl = 0 := by
                    have := wp5.le Dl
                    unfold one at this
                    rw [if_pos rfl] at this
                    omega
                  have hf6 : ∀ a, F5 a → upd H5 Dl (.lst (av ++ [v5])) a = H5 a := fun a h => upd_ne fun e => nfD (e ▸ h)
                  have ho6 : ∀ a, n5 a ≠ 0 → upd H5 Dl (.lst (av ++ [v5])) a = H5 a := fun a h => upd_ne fun e => h (e ▸ n5D)
                  have wp6 : WF F5 (upd H5 Dl (.lst (av ++ [v5]))) (fun a => one Dl a + n5 a) := by
                    refine ⟨wp5.le, wp5.nf, fun a h => ?_, fun a h => by rw [hf6 a h]; exact wp5.hf a h⟩
                    by_cases e : a = Dl
                    · rw [e, upd_same]; simp
                    · rw [upd_ne e]; exact wp5.ho a h
                  have ep6 : Ext F5 H5 (fun a => one Dl a + n5 a) F5 (upd H5 Dl (.lst (av ++ [v5]))) (fun a => one Dl a + n5 a) := by
                    refine ⟨fun a o ho hz => ?_, fun a h => ?_, fun _ h => h, fun a h => .inl h, fun a h => .inl h⟩
                    · have hne : a ≠ Dl := fun e => by
                        have hz : one Dl a + n5 a = 0 := hz
                        unfold one at hz
                        rw [if_pos e] at hz
                        omega
                      rw [upd_ne hne]; exact ho
                    · by_cases e : a = Dl
                      · rw [e, upd_same]; simp
                      · rw [upd_ne e]; exact h
                  refine again wp6 (((ep3.trans wf1 ep4).trans wf1 ep5).trans wf1 ep6) (SL.mono (fun _ h => h) hf6 ho6 sl5) upd_same ?_ (by rw [List.length_append, List.length_singleton]; omega) ok4 hc
                  exact RL.append (RL.mono (fun _ h => h) hf6 _ rl5) ⟨v5, [], rfl, R.mono (fun _ h => h) hf6 _ ry, rfl⟩
                · rw [if_neg ok4] at hc
                  cases hc
  · have e : i = xs.length := by omega
    subst e
    rw [List.drop_length] at hc
    unfold compL at hc
    cases hc
    exact .inl ⟨w0.stops F1 H1 n1 l1 wn1, fin F1 H1 n1 av ex1 l1 sl1 wf1 hD1 rl1⟩
end
def compL2 (g : Gd) (it1 : M (List D)) (g1 : Gd) (elt : M D) (vs vs1 : List Nat) (N : Nat) : List D → List D → Env → Option (List D × Env)
  | [], acc, ρ => some (acc, ρ)
  | x :: xs, acc, ρ => match g x (oth N vs) ρ with
    | none => none
    | some ρ1 => if ρ1.length = N then (match it1 ρ1 with
      | some (.ok ys, ρ2) => if okW ρ2 vs1 = true ∧ acc.length + ys.length ≤ sizeLine then (match compL g1 (ret true) elt vs1 N ys acc (wipeE ρ2 vs1) with
        | some (acc', ρ3) => if okW ρ3 vs = true then compL2 g it1 g1 elt vs vs1 N xs acc' (wipeE ρ3 vs) else none
        | none => none) else none
      | _ => none) else none
def lcomp2 (vs vs1 : List Nat) (it : M (List D)) (g : Gd) (it1 : M (List D)) (g1 : Gd) (elt : M D) : M RV := bnd it fun xs => fun ρ =>
  if okW ρ vs = true then
    match compL2 g it1 g1 elt vs vs1 ρ.length xs [] (wipeE ρ vs) with
    | some (ys, ρ2) => if okW ρ2 vs = true then some (.ok (.olst ys), restE ρ2 ρ vs) else none
    | none => none
  else none
section
variable {C : Cf} {elt tg iter tg1 iter1 : Expr} {scope : Scope} {own : List (Str × Nat)} {vs1 : List Nat} {pos spos py : Pos} {d d1 : M (List D)} {g g1 : Gd} {de : M D} {lk : List Nat}
theorem lc_imp2 {σ : L2.St} {H : Hp} {Q : VK} {N : Nat} (hN : N = σ.length) (hv : ∀ i ∈ vs1, i ∈ own.map (·.2)) (h : tO C.X.K C.cl C.W (lcomp2 (own.map (·.2)) vs1 d g d1 g1 de) σ H Q) :
    tLc2 (tI C.X.K C.cl C.W d) (tGt C.X.K C.cl (oth N (own.map (·.2))) g) (tT C.X.K C.cl (fun _ _ _ _ => False) (ret true)) (tI C.X.K C.cl (fun _ _ _ _ => False) d1) (tGt C.X.K C.cl (oth N vs1) g1) (tT C.X.K C.cl (fun _ _ _ _ => False) (ret true)) (tE C.X.K C.cl (fun _ _ _ _ => False) de) (own.map (·.2)) vs1 σ H Q := by
  obtain ⟨F, ρ, n, sl, wf, q⟩ := h
  refine ⟨F, ρ, n, sl, wf, q.bnd.imp fun xs ρ0 q => ?_⟩
  intro J F0 H0 n0 w0 sl0 wf0 ex0 Dl hD
  generalize hvs : own.map (·.2) = vs at q hv ⊢
  have q := Mt.step wf ex0 q (P' := pO C.X.K C.cl F0 H0 n0 σ Q) fun a ρ' q => q.step wf ex0
  by_cases hok : okW ρ0 vs = true
  · rw [if_pos hok] at q
    have hlen := SL.length sl0
    cases hr : compL2 g d1 g1 de vs vs1 ρ0.length xs [] (wipeE ρ0 vs) with
    | none => rw [hr] at q; exact q.elim
    | some p =>
      obtain ⟨ys, ρe⟩ := p
      rw [hr] at q
      dsimp only at q
      by_cases hoke : okW ρe vs = true
      case neg => rw [if_neg hoke] at q; exact q.elim
      rw [if_pos hoke] at q
      have q : pO C.X.K C.cl F0 H0 n0 σ Q (.olst ys) (restE ρe ρ0 vs) := q
      rw [← hlen, ← hN] at hr
      obtain ⟨wD, eD⟩ := new_own (o := .lst []) wf0 hD
      have slD : SL C.X.K C.cl F0 (upd H0 Dl (.lst [])) (wipeE ρ0 vs) (wipe σ vs) n0 := SL.wipe (sl0.ext wf0 (fun a h => h) fun a h => upd_ne fun e => h (by rw [e]; exact hD)) hok
      have hWL : (wipe σ vs).length = σ.length := wipe_length σ vs
      let Inv1 : Nat → Hp → Prop := fun i H1 => i ≤ xs.length ∧ ∃ (F1 : Addr → Prop) (ρ1 : Env) (n1 : Addr → Nat) (acc : List D) (av : List V), Lat F0 H0 F1 H1 ∧ SL C.X.K C.cl F1 H1 ρ1 (wipe σ vs) n1 ∧ WF F1 H1 (fun a => one Dl a + n1 a) ∧
        Ext F0 H0 n0 F1 H1 (fun a => one Dl a + n1 a) ∧ H1 Dl = some (.lst av) ∧ RL C.X.K C.cl F1 H1 acc av ∧ okW ρ1 vs = true ∧ compL2 g d1 g1 de vs vs1 N (xs.drop i) acc ρ1 = some (ys, ρe)
      refine ⟨fun i k H1 => k = xs.length - i ∧ Inv1 i H1, ⟨xs.length, rfl, Nat.zero_le _, F0, wipeE ρ0 vs, n0, [], [], ⟨fun _ h => h, fun a h => upd_ne fun e => wf0.hf a h (by rw [e]; exact hD)⟩, slD, wD, eD, upd_same, rfl, okW_wipe hok, hr⟩, ?_⟩
      rintro i k H1 ⟨rfl, hi, F1, ρ1, n1, acc, av, l1, sl1, wf1, ex1, hD1, rl1, ok1, hc⟩
      have wn1 : WF F1 H1 n1 := wf1.sub fun a => by omega
      by_cases hlt : i < xs.length
      · refine .inr ⟨w0.goes i F1 H1 n1 hlt l1 wn1, Inv1 (i + 1), fun H' h => ⟨xs.length - (i + 1), by omega, rfl, h⟩, fun v H2 y => ?_⟩
        obtain ⟨dd, F2, hd, rd, wf2, ex2, sm2⟩ := w0.yields i F1 H1 n1 v H2 hlt l1 wn1 y
        have hdrop : xs.drop i = dd :: xs.drop (i + 1) := by
          rw [List.drop_eq_getElem_cons hlt]
          rw [List.getElem?_eq_getElem hlt] at hd
          rw [Option.some.inj hd]
        rw [hdrop] at hc
        have sl2 : SL C.X.K C.cl F2 H2 ρ1 (wipe σ vs) n1 := sl1.mono ex2.fz (frame_eq wn1 ex2) fun a ha => by
          cases z : H1 a with
          | none => exact absurd z (wn1.ho a ha)
          | some o => exact sm2 a o z
        unfold compL2 at hc
        cases hg : g dd (oth N vs) ρ1 with
        | none => rw [hg] at hc; cases hc
        | some ρ2 =>
          rw [hg] at hc
          dsimp only at hc
          by_cases hN2 : ρ2.length = N
          case neg => rw [if_neg hN2] at hc; cases hc
          rw [if_pos hN2] at hc
          refine ⟨F2, ρ1, n1, dd, ρ2, rd, sl2, wf2, hg, ?_⟩
          intro σ3 F3 H3 n3 sl3 wf3 ex3 lk3
          have hl3 : σ3.length = σ.length := by rw [SL.length sl3, hN2, hN]
          have hw3 : wipe σ3 vs = wipe σ vs := by
            rw [show wipe σ vs = wipe (wipe σ vs) vs from (wipe_eq hWL fun j hj _ => wipe_get vs j hj).symm]
            refine wipe_eq (by rw [hl3, hWL]) fun j hj hjl => lk3 j ?_
            unfold oth
            rw [List.mem_filter, List.mem_range, hN]
            exact ⟨by rw [hWL] at hjl; exact hjl, by simpa using hj⟩
          refine ⟨hw3, ?_⟩
          have ex13 := ex2.trans wn1 ex3
          obtain ⟨wp3, ep3, hD3⟩ := beside (K := C.X.K) (cl := C.cl) wf1 ex13 wf3 hD1
          have rl3 : RL C.X.K C.cl F3 H3 acc av := rl1.ext wn1 ex13
          refine ⟨F3, ρ2, n3, sl3, wf3, ?_⟩
          intro F4 H4 n4 sl4 wf4 ex4
          obtain ⟨wp4, ep4, hD4⟩ := beside (K := C.X.K) (cl := C.cl) wp3 ex4 wf4 hD3
          rw [if_pos rfl]
          refine ⟨F4, ρ2, n4, sl4, wf4, ?_⟩
          unfold Mt
          cases hi1 : d1 ρ2 with
          | none => rw [hi1] at hc; cases hc
          | some p =>
            obtain ⟨r, ρ3⟩ := p
            rw [hi1] at hc
            cases r with
            | error x => cases hc
            | ok ys1 =>
              intro J1 F5 H5 n5 w5 sl5 wf5 ex5
              obtain ⟨wp5, ep5, hD5⟩ := beside (K := C.X.K) (cl := C.cl) wp4 ex5 wf5 hD4
              have rl5 : RL C.X.K C.cl F5 H5 acc av := (rl3.ext wf3 ex4).ext wf4 ex5
              dsimp only at hc
              by_cases hk : okW ρ3 vs1 = true ∧ acc.length + ys1.length ≤ sizeLine
              case neg => rw [if_neg hk] at hc; cases hc
              rw [if_pos hk] at hc
              cases hin : compL g1 (ret true) de vs1 N ys1 acc (wipeE ρ3 vs1) with
              | none => rw [hin] at hc; cases hc
              | some p =>
                obtain ⟨acc', ρ4⟩ := p
                rw [hin] at hc
                dsimp only at hc
                by_cases ok4 : okW ρ4 vs = true
                case neg => rw [if_neg ok4] at hc; cases hc
                rw [if_pos ok4] at hc
                refine lc_turns w5 (σ := σ3) (vs := vs1) (N := N) (by rw [hl3, hN]) (Dl := Dl) (Fin := Inv1 (i + 1)) ⟨fun _ h => h, fun _ _ => rfl⟩ (SL.wipe sl5 hk.1) wp5 hD5 rl5 hk.2 (okW_wipe hk.1) hin ?_
                intro F6 H6 n6 av6 e6 l6 sl6 wf6 hD6 rl6
                have ee := (((ep3.trans wf1 ep4).trans wf1 ep5).trans wf1 e6)
                have hw6 : wipe (wipe σ3 vs1) vs = wipe σ vs := by
                  rw [← hw3]
                  exact wipe_eq (wipe_length σ3 vs1) fun j hj _ => wipe_get vs1 j fun z => hj (hv j z)
                refine ⟨hlt, F6, wipeE ρ4 vs, n6, acc', av6, ⟨fun a h => ee.fz a (l1.1 a h), fun a h => (frame_eq wf1 ee a (l1.1 a h)).trans (l1.2 a h)⟩, ?_, wf6, ex1.trans wf0 ee, hD6, rl6, okW_wipe ok4, hc⟩
                rw [← hw6]
                exact SL.wipe sl6 ok4
      · have e : i = xs.length := by omega
        subst e
        rw [List.drop_length] at hc
        unfold compL2 at hc
        cases hc
        refine .inl ⟨w0.stops F1 H1 n1 l1 wn1, ?_⟩
        have hslots : ∀ v ∈ vs, SLOT C.X.K C.cl F1 H1 (ρ0.getD v none) (σ.getD v none) (fun _ => 0) := fun v hv => by
          have z := hok
          unfold okW at z
          rw [List.all_eq_true] at z
          exact SLOT.mono ex1.fz (frame_eq wf0 ex1) (SL.slot sl0 (z v hv))
        have s2 := SL.rest (ρ := ρ0) (σ := σ) sl1 hoke hok hslots
        rw [restS_wipe] at s2
        exact q (.ref Dl) F1 H1 (one Dl) n1 ⟨Dl, av, rfl, hD1, rl1, fun _ => rfl⟩ s2 wf1 ex1
  · rw [if_neg hok] at q
    exact q.elim
/-- what the parts of a block of two sources denote -/
structure Blk2 (C : Cf) (elt tg tg1 iter1 : Expr) (scope : Scope) (own : List (Str × Nat)) (vs1 : List Nat) (g : Gd) (d1 : M (List D)) (g1 : Gd) (de : M D) : Prop where
  ok : BlkOk C.X.N C.X.env.scope scope own
  sub : ∀ i ∈ vs1, i ∈ own.map (·.2)
  tg : ∀ (s : Shared) (H : Hp) (L : Addr) (cls : List (Str × Addr)) (fp : List Addr) (lk : List Nat), DG (C.blk s H scope (compEnvC scope cls L C.X.env) fp) lk tg g
  it : ∀ (s : Shared) (H : Hp) (L : Addr) (cls : List (Str × Addr)) (fp : List Addr), DI (C.blk s H scope (compEnvC scope cls L C.X.env) fp) tg1 iter1 d1
  tg1 : ∀ (s : Shared) (H : Hp) (L : Addr) (cls : List (Str × Addr)) (fp : List Addr) (lk : List Nat), DG (C.blk s H scope (compEnvC scope cls L C.X.env) fp) lk tg1 g1
  el : ∀ (s : Shared) (H : Hp) (L : Addr) (cls : List (Str × Addr)) (fp : List Addr), DE (C.blk s H scope (compEnvC scope cls L C.X.env) fp) elt de
theorem o_lc2 (B : Blk2 C elt tg tg1 iter1 scope own vs1 g d1 g1 de) (hi : DI C tg iter d) (hs : ∀ x, foldedSetIterable iter C.X.env x = pure x := by intro _; rfl) (hs1 : ∀ env x, foldedSetIterable iter1 env x = pure x := by intro _ _; rfl) :
    DO C (.ListComp elt [⟨tg, iter, [], 0⟩, ⟨tg1, iter1, [], 0⟩] scope pos) (lcomp2 (own.map (·.2)) vs1 d g d1 g1 de) := by
  refine ⟨fun pins s σ H Q I h => ?_⟩
  exact (pe_lc2 (elt := elt) (te := tE C.X.K C.cl (fun _ _ _ _ => False) de) (tt := tT C.X.K C.cl (fun _ _ _ _ => False) (ret true)) (tt1 := tT C.X.K C.cl (fun _ _ _ _ => False) (ret true)) (wi1 := tI C.X.K C.cl (fun _ _ _ _ => False) d1) (g := tGt C.X.K C.cl (oth σ.length (own.map fun p : Str × Nat => p.2)) g) (g1 := tGt C.X.K C.cl (oth σ.length vs1) g1) (vs1 := vs1) C.calm C.nd hi B.ok B.sub
    (fun s H L cls fp => B.tg s H L cls fp _) (fun _ _ _ _ _ => tt_nil) B.it (fun s H L cls fp => B.tg1 s H L cls fp _) (fun _ _ _ _ _ => tt_nil) B.el hs hs1).run pins s σ H Q I (lc_imp2 rfl B.sub h)
theorem s_setLc2 {i : Nat} {y : Str} (hy : C.X.N[i]? = some y) (hyl : C.X.env.scope.names.lookup y = some .local) (hsw : swapsWith (.ListComp elt [⟨tg, iter, [], 0⟩, ⟨tg1, iter1, [], 0⟩] scope pos) (some (.Name y py)) spos.line C.X.env = pure true)
    (B : Blk2 C elt tg tg1 iter1 scope own vs1 g d1 g1 de) (hi : DI C tg iter d) (hs : ∀ x, foldedSetIterable iter C.X.env x = pure x := by intro _; rfl) (hs1 : ∀ env x, foldedSetIterable iter1 env x = pure x := by intro _ _; rfl) :
    DS C lk (.Assign [.Name y py] (.ListComp elt [⟨tg, iter, [], 0⟩, ⟨tg1, iter1, [], 0⟩] scope pos) spos) (sset i (lcomp2 (own.map (·.2)) vs1 d g d1 g1 de)) := by
  refine ⟨fun pins s σ H D I h => ?_⟩
  refine (ps_setLc2 (te := tE C.X.K C.cl (fun _ _ _ _ => False) de) (tt := tT C.X.K C.cl (fun _ _ _ _ => False) (ret true)) (tt1 := tT C.X.K C.cl (fun _ _ _ _ => False) (ret true)) (wi1 := tI C.X.K C.cl (fun _ _ _ _ => False) d1) (g := tGt C.X.K C.cl (oth σ.length (own.map fun p : Str × Nat => p.2)) g) (g1 := tGt C.X.K C.cl (oth σ.length vs1) g1) (vs1 := vs1) C.calm C.nd hy hyl hsw hi B.ok B.sub
    (fun s H L cls fp => B.tg s H L cls fp _) (fun _ _ _ _ _ => tt_nil) B.it (fun s H L cls fp => B.tg1 s H L cls fp _) (fun _ _ _ _ _ => tt_nil) B.el hs hs1).run pins s σ H D I ?_
  obtain ⟨F, ρ, n, sl, wf, q⟩ := h
  refine lc_imp2 (C := C) (own := own) rfl B.sub ⟨F, ρ, n, sl, wf, q.bnd.imp fun r ρ1 q => ?_⟩
  intro v F1 H1 m n1 ro sl1 wf1 ex1
  unfold sput at q
  split at q
  · rename_i h
    exact put_ok q ro sl1 wf1 ex1 Lk.refl h.1 h.2
  · exact q.elim
end
/-- a tuple that the module keeps -/
theorem e_globD {C : Cf} {x : Str} {pos : Pos} {d : D} (hm : ∃ (v : V) (u : Value), C.X.mg x = some u ∧ RelV v u ∧ ∀ (F : Addr → Prop) (H : Hp), R C.X.K C.cl F H d v) (hg : Gl C.X x) (hd : (x == ("__debug__" : Str)) = false := by decide) : DE C (.Name x pos) (ret d) := by
  obtain ⟨v, u, h1, h2, h3⟩ := hm
  exact e_glob hg h1 h2 h3 hd
end KR

set_option Elab.async false
set_option linter.all false
set_option maxRecDepth 100000
set_option maxHeartbeats 2000000
/-! Tuples of which it is known that they have no dict: their methods (index). -/
namespace KR
open PySem L2 PyProof.Rows
/-- a tuple of that kind -/
def NT (K : PySem.W.Frag) (cl : Nat → Addr) (F : Addr → Prop) (H : Hp) (xs : List D) (v : V) : Prop := ∃ (a : Addr) (vs : List V) (o : Obj), v = .ref a ∧ F a ∧ o.dict = none ∧ H a = some (.frz o (.tup vs)) ∧ RL K cl F H xs vs
section
variable {K : PySem.W.Frag} {cl : Nat → Addr} {W : WX} {F F' : Addr → Prop} {H H' : Hp} {n n' : Addr → Nat} {σ : L2.St} {Q : VK} {xs : List D} {v : V} {ρ : Env}
theorem NT.r (h : NT K cl F H xs v) : R K cl F H (.tup xs) v := by
  obtain ⟨a, vs, o, rfl, hF, _, h2, rl⟩ := h
  exact ⟨a, vs, rfl, .inl ⟨hF, .inr ⟨o, h2⟩⟩, rl⟩
theorem NT.ext (h : NT K cl F H xs v) (w : WF F H n) (e : Ext F H n F' H' n') : NT K cl F' H' xs v := by
  obtain ⟨a, vs, o, rfl, hF, ho, h2, rl⟩ := h
  exact ⟨a, vs, o, rfl, e.fz a hF, ho, by rw [frame_eq w e a hF]; exact h2, rl.ext w e⟩
theorem NT.sq (h : NT K cl F H xs v) : ∃ a vs, v = .ref a ∧ SqT K H a vs ∧ RL K cl F H xs vs := by
  obtain ⟨a, vs, o, rfl, hF, _, h2, rl⟩ := h
  exact ⟨a, vs, rfl, .inl (.inr ⟨o, h2⟩), rl⟩
def pNt (K : PySem.W.Frag) (cl : Nat → Addr) (F : Addr → Prop) (H : Hp) (n : Addr → Nat) (σ : L2.St) (Q : VK) : List D → Env → Prop := fun xs ρ' =>
  ∀ (v : V) (F' : Addr → Prop) (H' : Hp) (n' : Addr → Nat), NT K cl F' H' xs v → SL K cl F' H' ρ' σ n' → WF F' H' n' → Ext F H n F' H' n' → Q v H'
def tN (K : PySem.W.Frag) (cl : Nat → Addr) (W : WX) (d : M (List D)) : TE := fun σ H Q => ∃ (F : Addr → Prop) (ρ : Env) (n : Addr → Nat), SL K cl F H ρ σ n ∧ WF F H n ∧ Mt K cl W F H n σ (d ρ) (pNt K cl F H n σ Q)
theorem pNt.step {ρ' : Env} (w : WF F H n) (e : Ext F H n F' H' n') (h : pNt K cl F H n σ Q xs ρ') : pNt K cl F' H' n' σ Q xs ρ' := fun v F2 H2 n2 r s wf ex => h v F2 H2 n2 r s wf (e.trans w ex)
theorem pNt.here (q : pNt K cl F H n σ Q xs ρ) (r : NT K cl F H xs v) (sl : SL K cl F H ρ σ n) (wf : WF F H n) : Q v H := q v F H n r sl wf Ext.refl
theorem pNt.new {vs : List V} {p : Addr} {o : Obj} (q : pNt K cl F H n σ Q xs ρ) (hp : H p = none) (ho : o.dict = none) (sl : SL K cl F H ρ σ n) (wf : WF F H n) (r : RL K cl F H xs vs) : Q (.ref p) (upd H p (.frz o (.tup vs))) := by
  obtain ⟨w2, e2⟩ := new_frz (o := .frz o (.tup vs)) wf hp
  exact q _ _ _ n ⟨p, vs, o, rfl, .inr rfl, ho, upd_same, r.new hp wf⟩ (sl.ext wf (fun a h => .inl h) fun a h => upd_ne fun e => h (by rw [e]; exact hp)) w2 e2
end
/-! ### how they come -/
section
variable {X : Cx} {es : List Expr} {t : TA} {pos : Pos}
def tTupN (t : TA) : TE := fun σ H Q => t σ H fun xs H1 => xs.length ≤ sizeLine ∧ ∀ (p : Addr) (o : Obj), H1 p = none → o.dict = none → Q (.ref p) (upd H1 p (.frz o (.tup xs)))
theorem pe_tupN {x1} (h : PA X es t) : PE X (.Tuple es x1 pos) (tTupN t) := by
  refine ⟨fun pins s σ H Q I hq => ?_⟩
  refine wpAny_Tuple_spliced (thn (h.run pos pins s σ H _ I hq) fun us s1 ⟨xs, H1, I1, r, z, q⟩ => ⟨by rw [← r.length]; exact z, ?_⟩)
  have hf : H1 s1.heap.objs.size = none := I1.hok.fresh (Nat.le_refl _)
  refine ⟨.ref s1.heap.objs.size, upd H1 s1.heap.objs.size (.frz { cls := .type "tuple", data := .seq us.toArray } (.tup xs)), I1.laid (t' := s1.toks) (fun b u e => Heap.get?_push_of_some _ e) (Nat.le_refl _) ?_, rfl, q _ _ hf rfl⟩
  exact ⟨Heap.get?_push_size _ rfl, z, us, r, ⟨_, Heap.get?_push_size _ rfl, rfl, _, rfl⟩⟩
def rCatN (K : PySem.W.Frag) : R2 := fun x y H Q => ∃ a b xs ys, x = .ref a ∧ y = .ref b ∧ SqT K H a xs ∧ SqT K H b ys ∧ xs.length + ys.length ≤ sizeLine ∧
  (xs = [] → Q (.ref b) H) ∧ (xs ≠ [] → ys = [] → Q (.ref a) H) ∧ (xs ≠ [] → ys ≠ [] → ∀ (p : Addr) (o : Obj), H p = none → o.dict = none → Q (.ref p) (upd H p (.frz o (.tup (xs ++ ys)))))
theorem op_catN : OpR X (binaryOp .Add) (rCatN X.K) := by
  intro pins s σ H x y v u Q I rx ry h
  obtain ⟨a, b, xs, ys, rfl, rfl, ha, hb, hz, q0, q1, q2⟩ := h
  by_cases hx : xs = []
  · subst hx
    cases rx
    cases ry
    obtain ⟨its, r1, p1, _⟩ := I.tuple ha
    obtain ⟨its2, r2, p2, _⟩ := I.tuple hb
    cases r1
    exact cat_tup0 p1 p2 ⟨.ref b, H, I, rfl, q0 rfl⟩
  · cases rx
    cases ry
    obtain ⟨its, r1, p1, _⟩ := I.tuple ha
    obtain ⟨its2, r2, p2, _⟩ := I.tuple hb
    refine HT.cat_tup p1 p2 (fun z => hx (r1.nil_iff.mp z)) (fun z => ⟨.ref a, H, I, rfl, q1 hx (r2.nil_iff.mp z)⟩) (fun z => ?_) (by rw [← r1.length, ← r2.length]; exact hz)
    refine ⟨.ref s.heap.objs.size, _, I.laid (t' := s.toks) (o := .frz { cls := .type "tuple", data := .seq (its ++ its2).toArray } (.tup (xs ++ ys))) (fun b ob q => Heap.get?_push_of_some _ q) (Nat.le_refl _) ?_, rfl, q2 hx (fun w => z (r2.nil_iff.mpr w)) _ _ (I.hok.fresh (Nat.le_refl _)) rfl⟩
    exact ⟨Heap.get?_push_size _ rfl, by rw [List.length_append]; exact hz, _, r1.append r2, IsTup.new _ _⟩
def rSlN (K : PySem.W.Frag) : V → Option Int → Option Int → Hp → VK → Prop := fun x lo hi H Q => ∃ a xs, x = .ref a ∧ SqT K H a xs ∧
  (HT.sIx xs.length 0 lo = 0 ∧ HT.sIx xs.length xs.length hi = xs.length → Q (.ref a) H) ∧ (¬ (HT.sIx xs.length 0 lo = 0 ∧ HT.sIx xs.length xs.length hi = xs.length) → ∀ (p : Addr) (o : Obj), H p = none → o.dict = none → Q (.ref p) (upd H p (.frz o (.tup (cutV xs lo hi)))))
theorem sl_tupN : SlR X (rSlN X.K) := by
  intro pins s σ H x v vl vu lo hi sl Q I rx hs pl pu h
  obtain ⟨a, xs, rfl, hx, q1, q2⟩ := h
  cases rx
  obtain ⟨its, r, ht, hz⟩ := I.tuple hx
  have hlen : its.toArray.size = xs.length := by rw [List.size_toArray]; exact r.length.symm
  refine ⟨"tuple", _, PyProof.Rows.slot_tuple_getitem.lookup, ht.typeIs, ?_⟩
  by_cases hw : HT.sIx xs.length 0 lo = 0 ∧ HT.sIx xs.length xs.length hi = xs.length
  · exact getItem_tuple_whole ht hs pl pu (by rw [hlen]; exact hw) ⟨.ref a, H, I, rfl, q1 hw⟩
  · refine HT.getItem_tuple_cut ht hs pl pu (by rw [hlen]; exact hw) ?_ (by rw [hlen]; exact hz)
    rw [hlen]
    exact ⟨.ref s.heap.objs.size, _, I.laid (t' := s.toks) (o := .frz _ (.tup (cutV xs lo hi))) (fun b ob q => Heap.get?_push_of_some _ q) (Nat.le_refl _)
      ⟨Heap.get?_push_size _ rfl, Nat.le_trans (cutV_length xs lo hi) hz, _, (r.drop (HT.sIx xs.length 0 lo)).take (HT.sIx xs.length xs.length hi - HT.sIx xs.length 0 lo), IsTup.new _ _⟩, rfl, q2 hw _ _ (I.hok.fresh (Nat.le_refl _)) (by rfl)⟩
theorem call_tuple_ofN : CallR X (.type "tuple") (fun xs H Q => ∃ p ys, xs = [.ref p] ∧ SqL X.K H p ys ∧ ∀ (l : Addr) (o : Obj), H l = none → o.dict = none → Q (.ref l) (upd H l (.frz o (.tup ys)))) := by
  intro pins s σ H xs us Q I r h
  obtain ⟨p, ys, rfl, hq, q⟩ := h
  obtain ⟨u, rfl, rx⟩ := vals1 r
  cases rx
  obtain ⟨its, r', pl, hz⟩ := I.list hq
  have hlen := r'.length
  refine call_tuple_list pl.isList (fun h' kp => ?_) (by simp only [List.size_toArray] <;> omega)
  have I1 : L2.Inv X pins σ H { s with heap := h' } := I.kept (t' := s.toks) kp
  have I2 : L2.Inv X pins σ (upd H h'.objs.size (.frz { cls := .type "tuple", data := .seq its.toArray } (.tup ys))) { s with heap := h'.push { cls := .type "tuple", data := .seq its.toArray } } :=
    I1.laid (t' := s.toks) (fun b o e => Heap.get?_push_of_some _ e) (Nat.le_refl _) (show ObjOk X.prog X.w _ _ _ (.frz _ (.tup ys)) from ⟨Heap.get?_push_size _ rfl, hz, its, r', IsTup.new _ _⟩)
  exact ⟨.ref h'.objs.size, _, I2, rfl, q _ _ (I1.hok.fresh (Nat.le_refl _)) rfl⟩
end
/-! ### index -/
/-- the first equal one -/
def gtidx (xs : List D) (y : D) : Option Nat := match D.pys xs, D.py y with
  | some qs, some p => if SeqAt.shaped (.list qs) = true ∧ SeqAt.shaped p = true then qs.findIdx? fun q => PyData.eqv q p else none
  | _, _ => none
section
variable {X : Cx} {o e : Expr} {es : List Expr} {to : TE} {t : TA} {apos cpos : Pos} {r : V → List V → Hp → VK → Prop}
/-- of that kind, as the heap holds it -/
def isNt (x : V) (H : Hp) : Prop := ∃ (a : Addr) (vs : List V) (ob : Obj), x = .ref a ∧ ob.dict = none ∧ H a = some (.frz ob (.tup vs))
def tBT (r : V → List V → Hp → VK → Prop) (to : TE) (t : TA) : TE := fun σ H Q => to σ H fun x H1 => isNt x H1 ∧ t σ H1 fun xs H2 => r x xs H2 Q
theorem pe_bmT (hm : MtR X "tuple.index" r) (ho : PE X o to) (ha : PA X (e :: es) t)
    (hbase : attributeBase o "index" X.env (eval o X.env) = eval o X.env := by rfl)
    (hfew : ((backTo cpos (starEach (e :: es) X.env)).all (fun x => !x.1) && (backToKw cpos (keywordEach [] X.env)).all (fun x => x.1.isSome)
      && decide ((e :: es).length + ([] : List Keyword).length + (if ([] : List Keyword).isEmpty then 0 else 1) < 30)) = true := by rfl)
    (hline : (apos.endLine == cpos.line) = true := by rfl) (hs : starEach (e :: es) X.env = (false, eval e X.env) :: starEach es X.env := by rfl) (hplain : (backTo cpos (starEach es X.env)).any (·.1) = false := by rfl) :
    PE X (.Call (.Attribute o "index" apos) (e :: es) [] cpos) (tBT r to t) := by
  refine ⟨fun pins s σ H Q I h => ?_⟩
  refine wpAny_Call_method_late hbase hfew hline rfl (thn (ho.run pins s σ H _ I h) fun v s1 ⟨x, H1, I1, r1, ty, q1⟩ => ?_)
  obtain ⟨a, vs, ob, rfl, hd, hH⟩ := ty
  cases r1
  have hok := I1.hok a _ hH
  obtain ⟨hob, hz, its, hv, ht⟩ := hok
  have h1 : s1.TypeIs (.ref a) "tuple" := by
    obtain ⟨o', ho', hc, _⟩ := ht
    exact ⟨o', ho', hc⟩
  refine ⟨"tuple", "tuple.index", PySem.F.plainAttrs_tuple, PySem.F.slot_tuple_index, PySem.F.type_tuple_index, h1, (fun b e => by cases e; exact ⟨ob, hob, hd⟩), ?_⟩
  have hA := ha.run cpos pins s1 σ H1 _ I1 q1
  rw [hs] at hA ⊢
  refine Calls.callWith_builtin (by show (false || (backTo cpos (starEach es X.env)).any (·.1)) = false; rw [hplain] <;> rfl) (Calls.evalArgs_plain ?_)
  exact thn hA fun us s2 ⟨vs', H2, I2, r2, q2⟩ => hm pins s2 σ H2 (.ref a) vs' (.ref a) us Q I2 rfl r2 q2
def rIndexT (K : PySem.W.Frag) : V → List V → Hp → VK → Prop := fun x xs H Q => ∃ (a : Addr) (y : V) (d : PyData) (ds : List PyData) (j : Nat) (z : PyData), x = V.ref a ∧ xs = [y] ∧ Dp K H (V.ref a) (.tuple ds) ∧ Dp K H y d ∧
  SeqAt.shaped (.list ds) = true ∧ SeqAt.shaped d = true ∧ ds[j]? = some z ∧ PyData.eqv z d = true ∧ (∀ (m : Nat) (z' : PyData), m < j → ds[m]? = some z' → PyData.eqv z' d = false) ∧ Q (.int (j : Nat)) H
theorem mt_indexT (hu : X.A.units + 65 < cLine) : MtR X "tuple.index" (rIndexT X.K) := by
  intro pins s σ H x xs v us Q I rx rxs h
  obtain ⟨a, y, d, ds, j, z, rfl, rfl, hl, hy, sl, sd, hz, hzj, hno, q⟩ := h
  cases rx
  cases rxs with
  | cons ry rt =>
    rename_i uy ut
    cases rt
    obtain ⟨bs, r1⟩ := Dp.reads I d y uy hy ry
    have hxs : PyData.canLayAll0 ds = true := SeqAt.canLay_of_shaped sl
    have hroom : X.A.units + 1 + min (PyData.depthAll ds) d.depth < cLine := room_in_shaped sd hu
    cases hl with
    | tup hs ha =>
      obtain ⟨its, rv, ⟨⟨cls, dd, data, sls⟩, ho, hc, n, hdt⟩, hlen⟩ := I.tuple hs
      simp only at hc hdt
      subst hc hdt
      obtain ⟨as, h4⟩ := Dp.readsAll I ds _ its ha rv
      have hn : its.length = ds.length := SeqAt.ReadsAll.length ds its as h4
      have hmap : its.map (SeqAt.readOf s.heap) = ds := SeqAt.readsAll_map ds its as hxs h4
      obtain ⟨hjd, _⟩ := List.getElem?_eq_some_iff.mp hz
      have hjl : j < its.length := by omega
      have hj : j < its.toArray.size := by simpa using hjl
      have at_ : ∀ (m : Nat) (hm : m < its.toArray.size) (z' : PyData), ds[m]? = some z' → SeqAt.readOf s.heap its.toArray[m] = z' := by
        intro m hm z' hz'
        have hml : m < its.length := by simpa using hm
        rw [← hmap, List.getElem?_map, List.getElem?_eq_getElem hml] at hz'
        have e1 : SeqAt.readOf s.heap its[m] = z' := Option.some.inj (show some (SeqAt.readOf s.heap its[m]) = some z' from hz')
        simpa using e1
      refine call_meets PySem.F.slot_tuple_index ⟨_, ho, rfl⟩ PySem.F.entry_tuple_index (PySem.F.args_tuple_index_2 _ _)
        (TI.tuple_indexAt a its.toArray n dd sls uy (fun u => PyData.eqv (SeqAt.readOf s.heap u) d) j hj ?_ ?_) ⟨ho, SeqAt.items_eqAt (vs := its.toArray) (show ReadsAll s.heap its.toArray.toList ds as from h4) r1 hxs (SeqAt.canLay_of_shaped sd) hroom, ?_⟩
      · show PyData.eqv (SeqAt.readOf s.heap its.toArray[j]) d = true
        rw [at_ j hj z hz]
        exact hzj
      · intro m hm hmj
        have hmd : m < ds.length := by
          have : m < its.length := by simpa using hm
          omega
        have hz' : ds[m]? = some ds[m] := List.getElem?_eq_getElem hmd
        show PyData.eqv (SeqAt.readOf s.heap its.toArray[m]) d = false
        rw [at_ m hm _ hz']
        exact hno m _ hmj hz'
      · exact ⟨.int (j : Nat), H, I.tok _, ⟨_, rfl⟩, q⟩
end
/-! ### expressions that tell one -/
def DN (C : Cf) (e : Expr) (d : M (List D)) : Prop := PE C.X e (tN C.X.K C.cl C.W d)
section
variable {C : Cf} {a b e : Expr} {da db : M (List D)} {de : M D} {pos apos : Pos}
def ofN (d : M (List D)) : M D := bnd d fun xs => ret (.tup xs)
def nice (d : M (List D)) : M RV := bnd d fun xs => ret (.otup xs)
theorem e_ofN (h : DN C a da) : DE C a (ofN da) := by
  refine PE.imp h fun σ H Q ⟨F, ρ, n, sl, wf, q⟩ => ⟨F, ρ, n, sl, wf, q.bnd.imp fun r ρ' q => ?_⟩
  intro v F' H' n' hn sl' wf' ex
  exact q v F' H' n' hn.r sl' wf' ex
theorem o_nice (h : DN C a da) : DO C a (nice da) := by
  refine PE.imp h fun σ H Q ⟨F, ρ, n, sl, wf, q⟩ => ⟨F, ρ, n, sl, wf, q.bnd.imp fun r ρ' q => ?_⟩
  intro v F' H' n' hn sl' wf' ex
  exact q v F' H' (fun _ => 0) n' ⟨hn, fun _ => rfl⟩ sl' (wf'.congr fun _ => by show 0 + _ = _; omega) (ex.congr (fun _ => rfl) fun _ => by show 0 + _ = _; omega)
def getn (i : Nat) : M (List D) := fun ρ => match ρ[i]? with
  | some (some (.otup xs)) => some (.ok xs, ρ)
  | _ => none
theorem n_name {i : Nat} {x : Str} (h : PE C.X (.Name x pos) (tVar i)) : DN C (.Name x pos) (getn i) := by
  refine PE.imp h fun σ H Q ⟨F, ρ, n, sl, wf, q⟩ => ?_
  unfold getn at q
  split at q
  · rename_i xs e
    obtain ⟨v, n1, n2, ev, ro, hn, put⟩ := SL.get sl e
    exact ⟨v, ev, q v F H n ro.1 sl wf Ext.refl⟩
  · exact q.elim
def ntup (ds : M (List D)) : M (List D) := bnd ds fun xs => lift (if xs.length ≤ sizeLine then some xs else none)
theorem n_tup {es : List Expr} {ds : M (List D)} {k} (h : DA C es ds) : DN C (.Tuple es k pos) (ntup ds) := by
  refine PE.imp (pe_tupN h) fun σ H Q ⟨F, ρ, n, sl, wf, q⟩ => ⟨F, ρ, n, sl, wf, q.bnd.imp fun xs ρ1 q => ?_⟩
  obtain ⟨z, e, q⟩ := Mt_lift q
  intro vs F1 H1 n1 rs sl1 wf1 ex1
  split at e
  · rename_i hz
    cases e
    exact ⟨by rw [rs.length]; exact hz, fun p o hp ho => (q.step wf ex1).new hp ho sl1 wf1 rs⟩
  · cases e
/-- tuple(a list) -/
def ntl : List D → Option (List D)
  | [.lst xs] => some xs
  | [.lsr xs] => some xs
  | _ => none
def ntlM (ds : M (List D)) : M (List D) := bnd ds fun xs => lift (ntl xs)
theorem n_tuple {x : Str} {p : Pos} {es : List Expr} {ds : M (List D)} (hg : Gl C.X x) (hm : C.X.mg x = none) (hv : bootBuiltins x = some (.type "tuple")) (ha : DA C (a :: es) ds)
    (hn : x ≠ "__name__" := by decide) (hdb : (x == ("__debug__" : Str)) = false := by decide)
    (he : starEach (a :: es) C.X.env = (false, eval a C.X.env) :: starEach es C.X.env := by rfl) (hpl : (backTo pos (starEach es C.X.env)).any (·.1) = false := by rfl) : DN C (.Call (.Name x p) (a :: es) [] pos) (ntlM ds) := by
  refine PE.imp (pe_callTy call_tuple_ofN hg hm hv ha hn hdb he hpl) fun σ H Q ⟨F, ρ, n, sl, wf, q⟩ => ⟨F, ρ, n, sl, wf, q.bnd.imp fun xs ρ1 q => ?_⟩
  obtain ⟨z, e, q⟩ := Mt_lift q
  intro vs F1 H1 n1 rs sl1 wf1 ex1
  have q2 : pNt C.X.K C.cl F1 H1 n1 σ Q z ρ1 := pNt.step wf ex1 q
  unfold ntl at e
  split at e
  · rename_i xs
    cases e
    obtain ⟨v, rfl, rx⟩ := rs.one
    obtain ⟨a, ws, rfl, _, ht, rl⟩ := rx
    exact ⟨a, ws, rfl, SqL.of ht, fun p o hp ho => q2.new hp ho sl1 wf1 rl⟩
  · rename_i xs
    cases e
    obtain ⟨v, rfl, rx⟩ := rs.one
    obtain ⟨a, ws, rfl, ht, rl⟩ := rx
    exact ⟨a, ws, rfl, ht.seq, fun p o hp ho => q2.new hp ho sl1 wf1 rl⟩
  · cases e
/-- a + b -/
def ncat (da db : M (List D)) : M (List D) := bnd da fun xs => bnd db fun ys => lift (if xs.length + ys.length ≤ sizeLine then some (xs ++ ys) else none)
theorem n_cat (ha : DN C a da) (hb : DN C b db) : DN C (.BinOp a .Add b pos) (ncat da db) := by
  refine PE.imp (pe_op op_catN ha hb) fun σ H Q ⟨F, ρ, n, sl, wf, q⟩ => ⟨F, ρ, n, sl, wf, q.bnd.imp fun xs ρ1 q => ?_⟩
  intro vx F1 H1 n1 hx sl1 wf1 ex1
  refine ⟨F1, ρ1, n1, sl1, wf1, q.bnd.step wf ex1 fun ys ρ2 q => ?_⟩
  intro vy F2 H2 n2 hy sl2 wf2 ex2
  have ex := ex1.trans wf ex2
  obtain ⟨z, e, q⟩ := Mt_lift q
  split at e
  · rename_i hz
    cases e
    have q : pNt C.X.K C.cl F2 H2 n2 σ Q (xs ++ ys) ρ2 := q.step wf ex
    have hx2 := hx.ext wf1 ex2
    have hx3 := hx2
    have hy3 := hy
    obtain ⟨a, vs, rfl, qa, ra⟩ := hx2.sq
    obtain ⟨b, us, rfl, qb, rb⟩ := hy.sq
    have l1 := ra.length
    have l2 := rb.length
    refine ⟨a, b, vs, us, rfl, rfl, qa, qb, by omega, fun z => ?_, fun z1 z2 => ?_, fun z1 z2 p o hp ho => ?_⟩
    · subst z
      have : xs = [] := List.eq_nil_of_length_eq_zero l1.symm
      subst this
      exact q.here hy3 sl2 wf2
    · subst z2
      have : ys = [] := List.eq_nil_of_length_eq_zero l2.symm
      subst this
      rw [List.append_nil] at q
      exact q.here hx3 sl2 wf2
    · exact q.new hp ho sl2 wf2 (ra.append rb)
  · cases e
/-- a[lo:hi] -/
def ncut (d : M (List D)) (lo hi : M (Option Int)) : M (List D) := bnd d fun xs => bnd lo fun i => bnd hi fun j => ret (cutD xs i j)
theorem n_sl {lo hi : Option Expr} {dl dh : M (Option Int)} {p2 : Pos} (ha : DN C a da) (hl : DP C lo dl) (hh : DP C hi dh) : DN C (.Subscript a (.Slice lo hi none p2) pos) (ncut da dl dh) := by
  refine PE.imp (pe_slice sl_tupN ha hl hh) fun σ H Q ⟨F, ρ, n, sl, wf, q⟩ => ⟨F, ρ, n, sl, wf, q.bnd.imp fun xs ρ1 q => ?_⟩
  intro vx F1 H1 n1 hx sl1 wf1 ex1
  refine ⟨F1, ρ1, n1, sl1, wf1, q.bnd.step wf ex1 fun i ρ2 q => ?_⟩
  intro F2 H2 n2 sl2 wf2 ex2
  have ex := ex1.trans wf ex2
  refine ⟨F2, ρ2, n2, sl2, wf2, q.bnd.step wf ex fun j ρ3 q => ?_⟩
  intro F3 H3 n3 sl3 wf3 ex3
  have q : pNt C.X.K C.cl F3 H3 n3 σ Q (cutD xs i j) ρ3 := pNt.step wf (ex.trans wf ex3) q
  have hx3 := (hx.ext wf1 ex2).ext wf2 ex3
  have hx4 := hx3
  obtain ⟨a, vs, rfl, qa, ra⟩ := hx3.sq
  refine ⟨a, vs, rfl, qa, fun hw => ?_, fun _ p o hp ho => q.new hp ho sl3 wf3 (ra.cut i j)⟩
  have l := ra.length
  have ec : cutD xs i j = xs := by
    unfold cutD
    rw [← l, hw.1, hw.2]
    simp [l]
  rw [ec] at q
  exact q.here hx4 sl3 wf3
theorem n_if {c : Expr} {t : M Bool} (hc : DT C c t) (ha : DN C a da) (hb : DN C b db) : DN C (.IfExp c a b pos) (ite' t da db) := by
  refine PE.imp (pe_ifExp hc ha hb) fun σ H Q ⟨F, ρ, n, sl, wf, q⟩ => ⟨F, ρ, n, sl, wf, q.bnd.imp fun k ρ1 q => ?_⟩
  intro F1 H1 n1 sl1 wf1 ex1
  cases k with
  | true => exact ⟨F1, ρ1, n1, sl1, wf1, Mt.step wf ex1 q fun a ρ' q => q.step wf ex1⟩
  | false => exact ⟨F1, ρ1, n1, sl1, wf1, Mt.step wf ex1 q fun a ρ' q => q.step wf ex1⟩
def ntidx (d : M (List D)) (de : M D) : M D := bnd d fun xs => bnd de fun y => lift ((gtidx xs y).map fun j => .int (j : Nat))
theorem e_tindex (ho : DN C a da) (ha : DE C e de) (hu : C.X.A.units + 65 < cLine)
    (hbase : attributeBase a "index" C.X.env (eval a C.X.env) = eval a C.X.env := by rfl)
    (hfew : ((backTo pos (starEach [e] C.X.env)).all (fun x => !x.1) && (backToKw pos (keywordEach [] C.X.env)).all (fun x => x.1.isSome)
      && decide (([e] : List Expr).length + ([] : List Keyword).length + (if ([] : List Keyword).isEmpty then 0 else 1) < 30)) = true := by rfl)
    (hline : (apos.endLine == pos.line) = true := by rfl) (hs : starEach [e] C.X.env = (false, eval e C.X.env) :: starEach [] C.X.env := by rfl) (hplain : (backTo pos (starEach [] C.X.env)).any (·.1) = false := by rfl) :
    DE C (.Call (.Attribute a "index" apos) [e] [] pos) (ntidx da de) := by
  refine PE.imp (pe_bmT (mt_indexT hu) ho (pa_cons ha pa_nil hs) hbase hfew hline hs hplain) fun σ H Q ⟨F, ρ, n, sl, wf, q⟩ => ⟨F, ρ, n, sl, wf, q.bnd.imp fun xs ρ1 q => ?_⟩
  intro vx F1 H1 n1 hx sl1 wf1 ex1
  have hx0 := hx
  obtain ⟨a, vs, o, rfl, hF, hd, hH, rl⟩ := hx
  refine ⟨⟨a, vs, o, rfl, hd, hH⟩, F1, ρ1, n1, sl1, wf1, q.bnd.step wf ex1 fun y ρ2 q => ?_⟩
  intro vy F2 H2 n2 ry sl2 wf2 ex2
  obtain ⟨z, ez, q⟩ := Mt_lift q
  have hx2 := hx0.ext wf1 ex2
  unfold gtidx at ez
  split at ez
  · rename_i qs p e1 e2
    split at ez
    · rename_i hsh
      cases hf : qs.findIdx? (fun q => PyData.eqv q p) with
      | none => rw [hf] at ez; cases ez
      | some j =>
        rw [hf] at ez
        have ez : some (D.int (j : Nat)) = some z := ez
        cases ez
        obtain ⟨hj, h1, h2⟩ := List.findIdx?_eq_some_iff_getElem.mp hf
        have dp : Dp C.X.K H2 (.ref a) (.tuple qs) := R.dp hx2.r (by rw [D.py, e1]; rfl)
        refine ⟨a, vy, p, qs, j, qs[j], rfl, rfl, dp, R.dp ry e2, hsh.1, hsh.2, List.getElem?_eq_getElem hj, h1, fun m z' hm hz' => ?_, ?_⟩
        · obtain ⟨hml, ez⟩ := List.getElem?_eq_some_iff.mp hz'
          have := h2 m hm
          rw [ez] at this
          simpa using this
        · exact q _ F2 H2 n2 rfl sl2 wf2 (ex1.trans wf ex2)
    · cases ez
  · cases ez
end
section
variable {ρ : Env}
@[simp] theorem ofN_ap {d : M (List D)} : ofN d ρ = bnd d (fun xs => ret (.tup xs)) ρ := rfl
@[simp] theorem nice_ap {d : M (List D)} : nice d ρ = bnd d (fun xs => ret (RV.otup xs)) ρ := rfl
@[simp] theorem getn_ap {i : Nat} : getn i ρ = match ρ[i]? with
  | some (some (.otup xs)) => some (.ok xs, ρ)
  | _ => none := rfl
@[simp] theorem ntup_ap {ds : M (List D)} : ntup ds ρ = bnd ds (fun xs => lift (if xs.length ≤ sizeLine then some xs else none)) ρ := rfl
@[simp] theorem ntlM_ap {ds : M (List D)} : ntlM ds ρ = bnd ds (fun xs => lift (ntl xs)) ρ := rfl
@[simp] theorem ntl_lst {xs : List D} : ntl [.lst xs] = some xs := rfl
@[simp] theorem ncat_ap {da db : M (List D)} : ncat da db ρ = bnd da (fun xs => bnd db fun ys => lift (if xs.length + ys.length ≤ sizeLine then some (xs ++ ys) else none)) ρ := rfl
@[simp] theorem ncut_ap {d : M (List D)} {lo hi : M (Option Int)} : ncut d lo hi ρ = bnd d (fun xs => bnd lo fun i => bnd hi fun j => ret (cutD xs i j)) ρ := rfl
@[simp] theorem ntidx_ap {d : M (List D)} {de : M D} : ntidx d de ρ = bnd d (fun xs => bnd de fun y => lift ((gtidx xs y).map fun j => .int (j : Nat))) ρ := rfl
end
end KR

set_option Elab.async false
set_option linter.all false
namespace My
open PySem L2 KR
set_option maxRecDepth 100000
set_option maxHeartbeats 4000000
def top (i : Nat) : Stmt := PySem.Challenge.pw_keeproom_k08_whole_order_alone.main.body.getD i (.Pass ⟨0, 0, 0, 0⟩)
/-- less -/
abbrev s0 : Stmt := top 1
abbrev N0 : List Str := ["one", "other"]
abbrev P0 : List Str := ["one", "other"]
noncomputable def b0 (cc : Nat → Cl) : S :=
  (sret (val (bin glt (bin gmul (bin gix (getv 0) (ret (.int 0))) (bin gix (getv 1) (ret (.int 1)))) (bin gmul (bin gix (getv 1) (ret (.int 0))) (bin gix (getv 0) (ret (.int 1)))))))
theorem sc0 : FnScope N0 P0 (defScope s0) := ⟨rfl, rfl, rfl, by decide +kernel, rfl, by decide +kernel, by decide +kernel⟩
/-- inserted -/
abbrev s1 : Stmt := top 2
abbrev N1 : List Str := ["number", "among", "index", "other"]
abbrev P1 : List Str := ["number", "among"]
noncomputable def b1 (cc : Nat → Cl) : S :=
  (seq (sfor (gtp 2 (gsc (gnm 2) (gsc (gnm 3) gsn))) (icl enu (acons (getv 1) (ret []))) (seq (sif (tst (bin geq (getv 3) (getv 0))) (sret (val (getv 1))) skip)
  (sif (tstV (frz (ocall (cc 0) 2 (cval (getv 0) (cval (getv 3) (ret [])))))) (sret (val (bin gadd (bin gadd (cut (getv 1) (ret none) (par (getv 2))) (dtup (acons (getv 0) (ret [])))) (cut (getv 1) (par (getv 2)) (ret none))))) skip)))
  (sret (val (bin gadd (getv 1) (dtup (acons (getv 0) (ret [])))))))
theorem sc1 : FnScope N1 P1 (defScope s1) := ⟨rfl, rfl, rfl, by decide +kernel, rfl, by decide +kernel, by decide +kernel⟩
/-- answers -/
abbrev s2 : Stmt := top 4
abbrev N2 : List Str := ["tree", "row", "count"]
abbrev P2 : List Str := ["tree", "row"]
noncomputable def b2 (cc : Nat → Cl) : S :=
  (sret (lcomp [2] (icl rng1 (acons (cal (f1 glen) (acons (getv 1) (ret []))) (ret []))) (gnm 2) (ret true) (frz (ocall (cc 8) 2 (cval (getv 0) (cval (cut (getv 1) (ret none) (par (bin gadd (getv 2) (ret (.int 1))))) (ret [])))))))
theorem sc2 : FnScope N2 P2 (defScope s2) := ⟨rfl, rfl, rfl, by decide +kernel, rfl, by decide +kernel, by decide +kernel⟩
/-- compared_meaning -/
abbrev s3 : Stmt := top 5
abbrev N3 : List Str := ["tree", "row", "one", "other"]
abbrev P3 : List Str := ["tree", "row"]
noncomputable def b3 (cc : Nat → Cl) : S :=
  (seq (sset 2 (ocall (cc 8) 2 (cval (bin gix (getv 0) (ret (.int 1))) (cval (getv 1) (ret [])))))
  (seq (sset 3 (ocall (cc 8) 2 (cval (bin gix (getv 0) (ret (.int 2))) (cval (getv 1) (ret [])))))
  (seq (sif (tor (tst (una gisN (getv 2))) (tst (una gisN (getv 3)))) (sret (val (ret .non))) skip)
  (seq (sif (tst (bin geq (bin gix (getv 0) (ret (.int 0))) (ret (.str "less")))) (sret (val (ite' (tstV (frz (ocall (cc 0) 2 (cval (getv 2) (cval (getv 3) (ret [])))))) (getv 2) (ret .non)))) skip)
  (sret (val (ite' (tst (bin geq (getv 2) (getv 3))) (getv 2) (ret .non))))))))
theorem sc3 : FnScope N3 P3 (defScope s3) := ⟨rfl, rfl, rfl, by decide +kernel, rfl, by decide +kernel, by decide +kernel⟩
/-- ordered_meaning -/
abbrev s4 : Stmt := top 7
abbrev N4 : List Str := ["tree", "row", "among", "answer"]
abbrev P4 : List Str := ["tree", "row"]
noncomputable def b4 (cc : Nat → Cl) : S :=
  (seq (sset 2 (val (dtup (ret []))))
  (seq (sfor (gnm 3) (its (frz (ocall (cc 2) 2 (cval (bin gix (getv 0) (ret (.int 2))) (cval (getv 1) (ret [])))))) (sif (tst (una gnotN (getv 3))) (sset 2 (ocall (cc 1) 2 (cval (getv 3) (cval (getv 2) (ret []))))) skip))
  (seq (sif (tst (bin glt (cal (f1 glen) (acons (getv 2) (ret []))) (bin gix (getv 0) (ret (.int 1))))) (sret (val (ret .non))) skip)
  (seq (sif (tst (bin geq (bin gix (getv 0) (ret (.int 0))) (ret (.str "great")))) (sret (val (bin gix (getv 2) (bin gsub (cal (f1 glen) (acons (getv 2) (ret []))) (bin gix (getv 0) (ret (.int 1))))))) skip)
  (sret (val (bin gix (getv 2) (bin gsub (bin gix (getv 0) (ret (.int 1))) (ret (.int 1))))))))))
theorem sc4 : FnScope N4 P4 (defScope s4) := ⟨rfl, rfl, rfl, by decide +kernel, rfl, by decide +kernel, by decide +kernel⟩
/-- counted_meaning -/
abbrev s5 : Stmt := top 9
abbrev N5 : List Str := ["tree", "row", "count", "answer"]
abbrev P5 : List Str := ["tree", "row"]
noncomputable def b5 (cc : Nat → Cl) : S :=
  (seq (sset 2 (val (cal (f1 glen) (acons (frz (lcomp [3] (its (frz (ocall (cc 2) 2 (cval (bin gix (getv 0) (una gneg (ret (.int 1)))) (cval (getv 1) (ret [])))))) (gnm 3) (tst (una gnotN (getv 3))) (getv 3))) (ret [])))))
  (seq (sif (tst (bin geq (bin gix (getv 0) (ret (.int 0))) (ret (.str "times")))) (sret (val (ite' (tst (bin gge (getv 2) (bin gix (getv 0) (ret (.int 1))))) (bin gix (bin gix (getv 1) (una gneg (ret (.int 1)))) (ret (.int 1))) (ret .non)))) skip)
  (sret (val (ite' (tst (bin geq (bin gmod (getv 2) (bin gix (getv 0) (ret (.int 1)))) (bin gix (getv 0) (ret (.int 2))))) (bin gix (bin gix (getv 1) (una gneg (ret (.int 1)))) (ret (.int 1))) (ret .non))))))
theorem sc5 : FnScope N5 P5 (defScope s5) := ⟨rfl, rfl, rfl, by decide +kernel, rfl, by decide +kernel, by decide +kernel⟩
/-- picked -/
abbrev s6 : Stmt := top 11
abbrev N6 : List Str := ["tree", "row", "known", "start", "index", "answer"]
abbrev P6 : List Str := ["tree", "row"]
noncomputable def b6 (cc : Nat → Cl) : S :=
  (seq (sset 2 (ocall (cc 2) 2 (cval (bin gix (getv 0) (ret (.int 1))) (cval (getv 1) (ret [])))))
  (seq (sif (tst (bin geq (bin gix (getv 0) (ret (.int 0))) (ret (.str "among")))) (sret (ocall (cc 8) 2 (cval (bin gix (getv 0) (ret (.int 2))) (cval (frz (lcomp [4] (icl rng1 (acons (cal (f1 glen) (acons (getv 1) (ret []))) (ret []))) (gnm 4) (tst (una gnotN (bin gix (getv 2) (getv 4)))) (bin gix (getv 1) (getv 4)))) (ret []))))) skip)
  (seq (sset 3 (val (ret (.int 0))))
  (seq (sfor (gtp 2 (gsc (gnm 4) (gsc (gnm 5) gsn))) (icl enu (acons (getv 2) (ret []))) (sif (tst (una gnotN (getv 5))) (sset 3 (val (bin gadd (getv 4) (ret (.int 1))))) skip))
  (sret (ocall (cc 8) 2 (cval (bin gix (getv 0) (ret (.int 2))) (cval (cut (getv 1) (par (getv 3)) (ret none)) (ret [])))))))))
theorem sc6 : FnScope N6 P6 (defScope s6) := ⟨rfl, rfl, rfl, by decide +kernel, rfl, by decide +kernel, by decide +kernel⟩
/-- reached -/
abbrev s7 : Stmt := top 12
abbrev N7 : List Str := ["tree", "row", "known", "answer"]
abbrev P7 : List Str := ["tree", "row"]
noncomputable def b7 (cc : Nat → Cl) : S :=
  (seq (sset 2 (lcomp [3] (its (frz (ocall (cc 2) 2 (cval (bin gix (getv 0) (ret (.int 1))) (cval (getv 1) (ret [])))))) (gnm 3) (tst (una gnotN (getv 3))) (getv 3)))
  (seq (sif (tnot (tstV (getv 2))) (sret (val (ret .non))) skip)
  (sret (val (ite' (tst (bin geq (bin gix (getv 0) (ret (.int 0))) (ret (.str "last")))) (bin gix (getv 2) (una gneg (ret (.int 1)))) (bin gix (getv 2) (ret (.int 0))))))))
theorem sc7 : FnScope N7 P7 (defScope s7) := ⟨rfl, rfl, rfl, by decide +kernel, rfl, by decide +kernel, by decide +kernel⟩
/-- meaning -/
abbrev s8 : Stmt := top 13
abbrev N8 : List Str := ["tree", "row", "kind"]
abbrev P8 : List Str := ["tree", "row"]
noncomputable def b8 (cc : Nat → Cl) : S :=
  (seq (sset 2 (val (bin gix (getv 0) (ret (.int 0)))))
  (seq (sif (tor (tnot (tstV (getv 1))) (tst (bin geq (getv 2) (ret (.str "nothing"))))) (sret (val (ret .non))) skip)
  (seq (sif (tst (bin geq (getv 2) (ret (.str "now")))) (sret (val (bin gix (bin gix (getv 1) (una gneg (ret (.int 1)))) (ret (.int 1))))) skip)
  (seq (sif (tst (bin geq (getv 2) (ret (.str "is")))) (sret (val (ite' (tst (bin geq (bin gix (bin gix (getv 1) (una gneg (ret (.int 1)))) (ret (.int 0))) (bin gix (getv 0) (ret (.int 1))))) (bin gix (bin gix (getv 1) (una gneg (ret (.int 1)))) (ret (.int 1))) (ret .non)))) skip)
  (seq (sif (tst (bin gin (getv 2) (dtup (acons (ret (.str "less")) (acons (ret (.str "same")) (ret [])))))) (sret (ocall (cc 3) 2 (cval (getv 0) (cval (getv 1) (ret []))))) skip)
  (seq (sif (tst (bin geq (getv 2) (ret (.str "if")))) (seq (sif (tst (una gisN (frz (ocall (cc 8) 2 (cval (bin gix (getv 0) (ret (.int 1))) (cval (getv 1) (ret []))))))) (sret (ocall (cc 8) 2 (cval (bin gix (getv 0) (ret (.int 3))) (cval (getv 1) (ret []))))) skip)
  (sret (ocall (cc 8) 2 (cval (bin gix (getv 0) (ret (.int 2))) (cval (getv 1) (ret [])))))) skip)
  (seq (sif (tst (bin gin (getv 2) (dtup (acons (ret (.str "last")) (acons (ret (.str "first")) (ret [])))))) (sret (ocall (cc 7) 2 (cval (getv 0) (cval (getv 1) (ret []))))) skip)
  (seq (sif (tst (bin geq (getv 2) (ret (.str "before")))) (sret (ocall (cc 8) 2 (cval (bin gix (getv 0) (ret (.int 1))) (cval (cut (getv 1) (ret none) (par (una gneg (ret (.int 1))))) (ret []))))) skip)
  (seq (sif (tst (bin gin (getv 2) (dtup (acons (ret (.str "great")) (acons (ret (.str "least")) (ret [])))))) (sret (ocall (cc 4) 2 (cval (getv 0) (cval (getv 1) (ret []))))) skip)
  (seq (sif (tst (bin gin (getv 2) (dtup (acons (ret (.str "times")) (acons (ret (.str "circle")) (ret [])))))) (sret (ocall (cc 5) 2 (cval (getv 0) (cval (getv 1) (ret []))))) skip)
  (sret (ocall (cc 6) 2 (cval (getv 0) (cval (getv 1) (ret [])))))))))))))))
theorem sc8 : FnScope N8 P8 (defScope s8) := ⟨rfl, rfl, rfl, by decide +kernel, rfl, by decide +kernel, by decide +kernel⟩
/-- children -/
abbrev s9 : Stmt := top 15
abbrev N9 : List Str := ["tree", "piece"]
abbrev P9 : List Str := ["tree"]
noncomputable def b9 (cc : Nat → Cl) : S :=
  (sret (lcomp [1] (its (cut (getv 0) (par (ret (.int 1))) (ret none))) (gnm 1) (tstV (una (gisi .tuple) (getv 1))) (getv 1)))
theorem sc9 : FnScope N9 P9 (defScope s9) := ⟨rfl, rfl, rfl, by decide +kernel, rfl, by decide +kernel, by decide +kernel⟩
/-- parts -/
abbrev s10 : Stmt := top 16
abbrev N10 : List Str := ["tree", "piece"]
abbrev P10 : List Str := ["tree"]
noncomputable def b10 (cc : Nat → Cl) : S :=
  (sret (val (bin gadd (ret (.int 1)) (cal (f1 gsum) (acons (frz (lcomp [1] (its (frz (ocall (cc 9) 1 (cval (getv 0) (ret []))))) (gnm 1) (ret true) (frz (ocall (cc 10) 1 (cval (getv 1) (ret [])))))) (ret []))))))
theorem sc10 : FnScope N10 P10 (defScope s10) := ⟨rfl, rfl, rfl, by decide +kernel, rfl, by decide +kernel, by decide +kernel⟩
/-- first_cells -/
abbrev s11 : Stmt := top 19
abbrev N11 : List Str := ["tree", "_"]
abbrev P11 : List Str := ["tree"]
noncomputable def b11 (cc : Nat → Cl) : S :=
  (sret (lcomp [1] (icl rng1 (acons (frz (ocall (cc 10) 1 (cval (getv 0) (ret [])))) (ret []))) (gnm 1) (ret true) (ret (.tup [.non, .int 0, .tup []]))))
theorem sc11 : FnScope N11 P11 (defScope s11) := ⟨rfl, rfl, rfl, by decide +kernel, rfl, by decide +kernel, by decide +kernel⟩
/-- compared_memory -/
abbrev s12 : Stmt := top 20
abbrev N12 : List Str := ["kind", "one", "other"]
abbrev P12 : List Str := ["kind", "one", "other"]
noncomputable def b12 (cc : Nat → Cl) : S :=
  (seq (sif (tor (tst (una gisN (getv 1))) (tst (una gisN (getv 2)))) (sret (val (ret .non))) skip)
  (seq (sif (tst (bin geq (getv 0) (ret (.str "less")))) (sret (val (ite' (tstV (frz (ocall (cc 0) 2 (cval (getv 1) (cval (getv 2) (ret [])))))) (getv 1) (ret .non)))) skip)
  (sret (val (ite' (tst (bin geq (getv 1) (getv 2))) (getv 1) (ret .non))))))
theorem sc12 : FnScope N12 P12 (defScope s12) := ⟨rfl, rfl, rfl, by decide +kernel, rfl, by decide +kernel, by decide +kernel⟩
/-- ordered_memory -/
abbrev s13 : Stmt := top 22
abbrev N13 : List Str := ["tree", "cell", "answer", "held", "told"]
abbrev P13 : List Str := ["tree", "cell", "answer"]
noncomputable def b13 (cc : Nat → Cl) : S :=
  (seq (sset 3 (val (bin gix (getv 1) (ret (.int 2)))))
  (seq (sif (tst (una gnotN (getv 2))) (sset 3 (ocall (cc 1) 2 (cval (getv 2) (cval (getv 3) (ret []))))) skip)
  (seq (sif (tst (bin geq (bin gix (getv 0) (ret (.int 0))) (ret (.str "great")))) (seq (sset 3 (val (cut (getv 3) (par (cal (f2 gmax) (acons (ret (.int 0)) (acons (bin gsub (cal (f1 glen) (acons (getv 3) (ret []))) (bin gix (getv 0) (ret (.int 1)))) (ret []))))) (ret none))))
  (sset 4 (val (ite' (tst (bin geq (cal (f1 glen) (acons (getv 3) (ret []))) (bin gix (getv 0) (ret (.int 1))))) (bin gix (getv 3) (ret (.int 0))) (ret .non))))) (seq (sset 3 (val (cut (getv 3) (ret none) (par (bin gix (getv 0) (ret (.int 1)))))))
  (sset 4 (val (ite' (tst (bin geq (cal (f1 glen) (acons (getv 3) (ret []))) (bin gix (getv 0) (ret (.int 1))))) (bin gix (getv 3) (una gneg (ret (.int 1)))) (ret .non))))))
  (sret (val (dtup (acons (getv 4) (acons (bin gix (getv 1) (ret (.int 1))) (acons (getv 3) (ret []))))))))))
theorem sc13 : FnScope N13 P13 (defScope s13) := ⟨rfl, rfl, rfl, by decide +kernel, rfl, by decide +kernel, by decide +kernel⟩
/-- counted_memory -/
abbrev s14 : Stmt := top 24
abbrev N14 : List Str := ["tree", "cell", "answer", "number", "count", "due"]
abbrev P14 : List Str := ["tree", "cell", "answer", "number"]
noncomputable def b14 (cc : Nat → Cl) : S :=
  (seq (sset 4 (val (bin gix (getv 1) (ret (.int 1)))))
  (seq (sif (tst (una gnotN (getv 2))) (sset 4 (val (ite' (tst (bin geq (bin gix (getv 0) (ret (.int 0))) (ret (.str "times")))) (cal (f2 gmin) (acons (bin gadd (getv 4) (ret (.int 1))) (acons (bin gix (getv 0) (ret (.int 1))) (ret [])))) (bin gmod (bin gadd (getv 4) (ret (.int 1))) (bin gix (getv 0) (ret (.int 1))))))) skip)
  (seq (sset 5 (val (ite' (tst (bin geq (bin gix (getv 0) (ret (.int 0))) (ret (.str "times")))) (bin gix (getv 0) (ret (.int 1))) (bin gix (getv 0) (ret (.int 2))))))
  (sret (val (dtup (acons (ite' (tst (bin geq (getv 4) (getv 5))) (getv 3) (ret .non)) (acons (getv 4) (acons (bin gix (getv 1) (ret (.int 2))) (ret []))))))))))
theorem sc14 : FnScope N14 P14 (defScope s14) := ⟨rfl, rfl, rfl, by decide +kernel, rfl, by decide +kernel, by decide +kernel⟩
/-- plain -/
abbrev s15 : Stmt := top 26
abbrev N15 : List Str := ["tree", "told", "name", "number", "kind"]
abbrev P15 : List Str := ["tree", "told", "name", "number"]
noncomputable def b15 (cc : Nat → Cl) : S :=
  (seq (sset 4 (val (bin gix (getv 0) (ret (.int 0)))))
  (seq (sif (tst (bin geq (getv 4) (ret (.str "now")))) (sret (val (getv 3))) skip)
  (seq (sif (tst (bin geq (getv 4) (ret (.str "is")))) (sret (val (ite' (tst (bin geq (getv 2) (bin gix (getv 0) (ret (.int 1))))) (getv 3) (ret .non)))) skip)
  (seq (sif (tst (bin gin (getv 4) (dtup (acons (ret (.str "less")) (acons (ret (.str "same")) (ret [])))))) (sret (ocall (cc 12) 3 (cval (getv 4) (cval (bin gix (getv 1) (ret (.int 0))) (cval (bin gix (getv 1) (ret (.int 1))) (ret [])))))) skip)
  (seq (sif (tst (bin geq (getv 4) (ret (.str "if")))) (sret (val (ite' (tst (una gisN (bin gix (getv 1) (ret (.int 0))))) (bin gix (getv 1) (ret (.int 2))) (bin gix (getv 1) (ret (.int 1)))))) skip)
  (sret (val (ret .non))))))))
theorem sc15 : FnScope N15 P15 (defScope s15) := ⟨rfl, rfl, rfl, by decide +kernel, rfl, by decide +kernel, by decide +kernel⟩
/-- own_cell -/
abbrev s16 : Stmt := top 27
abbrev N16 : List Str := ["tree", "cell", "told", "ahead", "name", "number", "kind", "answer"]
abbrev P16 : List Str := ["tree", "cell", "told", "ahead", "name", "number"]
noncomputable def b16 (cc : Nat → Cl) : S :=
  (seq (sset 6 (val (bin gix (getv 0) (ret (.int 0)))))
  (seq (sif (tst (bin gin (getv 6) (dtup (acons (ret (.str "great")) (acons (ret (.str "least")) (ret [])))))) (sret (ocall (cc 13) 3 (cval (getv 0) (cval (getv 1) (cval (bin gix (getv 2) (ret (.int 0))) (ret [])))))) skip)
  (seq (sif (tst (bin gin (getv 6) (dtup (acons (ret (.str "times")) (acons (ret (.str "circle")) (ret [])))))) (sret (ocall (cc 14) 4 (cval (getv 0) (cval (getv 1) (cval (bin gix (getv 2) (ret (.int 0))) (cval (getv 5) (ret []))))))) skip)
  (seq (sif (tst (bin geq (getv 6) (ret (.str "last")))) (sset 7 (val (ite' (tst (una gisN (bin gix (getv 2) (ret (.int 0))))) (bin gix (getv 1) (ret (.int 0))) (bin gix (getv 2) (ret (.int 0)))))) (sif (tst (bin geq (getv 6) (ret (.str "first")))) (sset 7 (val (ite' (tst (una gisN (bin gix (getv 1) (ret (.int 0))))) (bin gix (getv 2) (ret (.int 0))) (bin gix (getv 1) (ret (.int 0)))))) (sif (tst (bin geq (getv 6) (ret (.str "before")))) (sset 7 (val (bin gix (getv 3) (ret (.int 0))))) (sset 7 (ocall (cc 15) 4 (cval (getv 0) (cval (getv 2) (cval (getv 4) (cval (getv 5) (ret []))))))))))
  (sret (val (dtup (acons (getv 7) (acons (bin gix (getv 1) (ret (.int 1))) (acons (bin gix (getv 1) (ret (.int 2))) (ret [])))))))))))
theorem sc16 : FnScope N16 P16 (defScope s16) := ⟨rfl, rfl, rfl, by decide +kernel, rfl, by decide +kernel, by decide +kernel⟩
/-- split -/
abbrev s17 : Stmt := top 28
abbrev N17 : List Str := ["tree", "cells", "pieces", "at", "child", "size"]
abbrev P17 : List Str := ["tree", "cells"]
noncomputable def b17 (cc : Nat → Cl) : S :=
  (seq (sset 2 (dlst (ret [])))
  (seq (sset 3 (val (ret (.int 1))))
  (seq (sfor (gnm 4) (its (frz (ocall (cc 9) 1 (cval (getv 0) (ret []))))) (seq (sset 5 (ocall (cc 10) 1 (cval (getv 4) (ret []))))
  (seq (sdo (apnd 2 (cut (getv 1) (par (getv 3)) (par (bin gadd (getv 3) (getv 5))))))
  (gaug giadd 3 (getv 5)))))
  (sret (val (getv 2))))))
theorem sc17 : FnScope N17 P17 (defScope s17) := ⟨rfl, rfl, rfl, by decide +kernel, rfl, by decide +kernel, by decide +kernel⟩
/-- hear_split -/
abbrev s18 : Stmt := top 29
abbrev N18 : List Str := ["tree", "pieces", "name", "number", "first", "second"]
abbrev P18 : List Str := ["tree", "pieces", "name", "number"]
noncomputable def b18 (cc : Nat → Cl) : S :=
  (seq (sset 4 (ocall (cc 19) 4 (cval (bin gix (getv 0) (ret (.int 1))) (cval (bin gix (getv 1) (ret (.int 0))) (cval (getv 2) (cval (getv 3) (ret [])))))))
  (seq (sset 5 (val (bin gix (getv 1) (ret (.int 1)))))
  (seq (sif (tand (tst (bin geq (bin gix (getv 0) (ret (.int 0))) (ret (.str "since")))) (tst (una gnotN (bin gix (bin gix (getv 4) (ret (.int 0))) (ret (.int 0)))))) (sset 5 (ocall (cc 11) 1 (cval (bin gix (getv 0) (ret (.int 2))) (ret [])))) (sif (tor (tst (bin geq (bin gix (getv 0) (ret (.int 0))) (ret (.str "since")))) (tst (una gnotN (bin gix (bin gix (getv 4) (ret (.int 0))) (ret (.int 0)))))) (sset 5 (ocall (cc 19) 4 (cval (bin gix (getv 0) (ret (.int 2))) (cval (bin gix (getv 1) (ret (.int 1))) (cval (getv 2) (cval (getv 3) (ret []))))))) skip))
  (sret (dlst (acons (getv 4) (acons (getv 5) (ret []))))))))
theorem sc18 : FnScope N18 P18 (defScope s18) := ⟨rfl, rfl, rfl, by decide +kernel, rfl, by decide +kernel, by decide +kernel⟩
/-- hear_cells -/
abbrev s19 : Stmt := top 30
abbrev N19 : List Str := ["tree", "cells", "name", "number", "pieces", "heard", "own", "told", "piece", "cell", "child"]
abbrev P19 : List Str := ["tree", "cells", "name", "number"]
noncomputable def b19 (cc : Nat → Cl) : S :=
  (seq (sset 4 (ocall (cc 17) 2 (cval (getv 0) (cval (getv 1) (ret [])))))
  (seq (sif (tst (bin gin (bin gix (getv 0) (ret (.int 0))) (dtup (acons (ret (.str "since")) (acons (ret (.str "among")) (ret [])))))) (seq (sset 5 (ocall (cc 18) 4 (cval (getv 0) (cval (getv 4) (cval (getv 2) (cval (getv 3) (ret [])))))))
  (sset 6 (val (dtup (acons (bin gix (bin gix (bin gix (getv 5) (ret (.int 1))) (ret (.int 0))) (ret (.int 0))) (acons (bin gix (bin gix (getv 1) (ret (.int 0))) (ret (.int 1))) (acons (bin gix (bin gix (getv 1) (ret (.int 0))) (ret (.int 2))) (ret [])))))))) (seq (sset 5 (lcomp [10, 8] (icl zpp (acons (frz (ocall (cc 9) 1 (cval (getv 0) (ret [])))) (acons (getv 4) (ret [])))) (gtp 2 (gsc (gnm 10) (gsc (gnm 8) gsn))) (ret true) (frz (ocall (cc 19) 4 (cval (getv 10) (cval (getv 8) (cval (getv 2) (cval (getv 3) (ret [])))))))))
  (seq (sset 7 (lcomp [8] (its (getv 5)) (gnm 8) (ret true) (bin gix (bin gix (getv 8) (ret (.int 0))) (ret (.int 0)))))
  (sset 6 (ocall (cc 16) 6 (cval (getv 0) (cval (bin gix (getv 1) (ret (.int 0))) (cval (getv 7) (cval (frz (lcomp [8] (its (getv 4)) (gnm 8) (ret true) (bin gix (bin gix (getv 8) (ret (.int 0))) (ret (.int 0))))) (cval (getv 2) (cval (getv 3) (ret []))))))))))))
  (sret (val (bin gadd (frz (dlst (acons (getv 6) (ret [])))) (frz (lcomp2 [8, 9] [9] (its (getv 5)) (gnm 8) (its (getv 8)) (gnm 9) (getv 9))))))))
theorem sc19 : FnScope N19 P19 (defScope s19) := ⟨rfl, rfl, rfl, by decide +kernel, rfl, by decide +kernel, by decide +kernel⟩
/-- _law_tape -/
abbrev s20 : Stmt := top 32
abbrev N20 : List Str := ["_law_script", "_law_tape_here", "_law_cell", "_law_number_here", "_law_k", "_law_first"]
abbrev P20 : List Str := ["_law_script"]
noncomputable def b20 (cc : Nat → Cl) : S :=
  (seq (sset 1 (dlst (ret [])))
  (seq (sfor (gnm 2) (its (getv 0)) (seq (sset 3 (val (bin gmul (ret (.int 2)) (cal (f1 gint) (acons (getv 2) (ret []))))))
  (seq (sif (tst (bin glt (getv 3) (ret (.int 0)))) (sset 3 (val (bin gsub (una gneg (ret (.int 1))) (getv 3)))) skip)
  (sif (tst (bin gge (getv 3) (bin gpow (ret (.int 10)) (ret (.int 18))))) (sfor (gnm 4) (icl rng1 (acons (ret (.int 40)) (ret []))) (sif (tst (bin ggt (getv 3) (ret (.int 0)))) (seq (sdo (apnd 1 (bin gmod (cal (f1 gint) (acons (getv 3) (ret []))) (ret (.int 1000)))))
  (sset 3 (val (bin gdiv (getv 3) (ret (.int 1000)))))) skip)) (sfor (gnm 4) (icl rng1 (acons (ret (.int 3)) (ret []))) (seq (sset 5 (val (bin gmod (cal (f1 gint) (acons (bin gadd (bin gadd (bin gmul (getv 3) (ret (.int 48271))) (bin gmul (getv 4) (ret (.int 40503)))) (ret (.int 11))) (ret []))) (ret (.int 2147483629)))))
  (sdo (apnd 1 (bin gmod (cal (f1 gint) (acons (bin gadd (bin gmul (getv 5) (ret (.int 69621))) (bin gdiv (getv 5) (ret (.int 65536)))) (ret []))) (ret (.int 2147483629)))))))))))
  (sret (val (getv 1)))))
theorem sc20 : FnScope N20 P20 (defScope s20) := ⟨rfl, rfl, rfl, by decide +kernel, rfl, by decide +kernel, by decide +kernel⟩
/-- _law_draw -/
abbrev s21 : Stmt := top 33
abbrev N21 : List Str := ["_law_tape_here", "_law_at", "_law_many", "_law_number_here"]
abbrev P21 : List Str := ["_law_tape_here", "_law_at", "_law_many"]
noncomputable def b21 (cc : Nat → Cl) : S :=
  (seq (sif (tst (bin glt (getv 1) (cal (f1 glen) (acons (getv 0) (ret []))))) (sret (val (bin gmod (cal (f1 gint) (acons (bin gix (getv 0) (getv 1)) (ret []))) (getv 2)))) skip)
  (seq (sset 3 (val (ret (.int 1))))
  (seq (sif (tst (bin ggt (cal (f1 glen) (acons (getv 0) (ret []))) (ret (.int 0)))) (sset 3 (val (bin gix (getv 0) (bin gmod (cal (f1 gint) (acons (getv 1) (ret []))) (cal (f1 glen) (acons (getv 0) (ret []))))))) skip)
  (sret (val (bin gmod (bin gmod (cal (f1 gint) (acons (bin gadd (bin gmul (bin gmul (bin gadd (getv 3) (getv 1)) (bin gadd (getv 1) (ret (.int 3)))) (ret (.int 7919))) (bin gmul (getv 1) (ret (.int 104729)))) (ret []))) (ret (.int 65521))) (getv 2)))))))
theorem sc21 : FnScope N21 P21 (defScope s21) := ⟨rfl, rfl, rfl, by decide +kernel, rfl, by decide +kernel, by decide +kernel⟩
/-- _law_equal -/
abbrev s22 : Stmt := top 34
abbrev N22 : List Str := ["_law_actual", "_law_due", "_law_k"]
abbrev P22 : List Str := ["_law_actual", "_law_due"]
noncomputable def b22 (cc : Nat → Cl) : S :=
  (seq (sif (tst (una gisN (getv 1))) (sret (val (una gisN (getv 0)))) skip)
  (seq (sif (tstV (una (gisi .bool) (getv 1))) (sret (val (vand (una (gisi .bool) (getv 0)) (bin geq (getv 0) (getv 1))))) skip)
  (seq (sif (tstV (una (gisi .int) (getv 1))) (sret (val (vand (una (gisi .int) (getv 0)) (vand (una gnot (una (gisi .bool) (getv 0))) (bin geq (getv 0) (getv 1)))))) skip)
  (seq (sif (tstV (una (gisi .str) (getv 1))) (sret (val (vand (una (gisi .str) (getv 0)) (bin geq (getv 0) (getv 1))))) skip)
  (seq (sif (tand (tstV (una (gisi .tuple) (getv 1))) (tnot (tstV (una (gisi .tuple) (getv 0))))) (sret (val (ret (.bl false)))) skip)
  (seq (sif (tand (tstV (una (gisi .list) (getv 1))) (tnot (tstV (una (gisi .list) (getv 0))))) (sret (val (ret (.bl false)))) skip)
  (seq (sif (tst (bin gne (cal (f1 glen) (acons (getv 0) (ret []))) (cal (f1 glen) (acons (getv 1) (ret []))))) (sret (val (ret (.bl false)))) skip)
  (seq (sfor (gnm 2) (icl rng1 (acons (cal (f1 glen) (acons (getv 1) (ret []))) (ret []))) (sif (tnot (tstV (frz (ocall (cc 22) 2 (cval (bin gix (getv 0) (getv 2)) (cval (bin gix (getv 1) (getv 2)) (ret []))))))) (sret (val (ret (.bl false)))) skip))
  (sret (val (ret (.bl true))))))))))))
theorem sc22 : FnScope N22 P22 (defScope s22) := ⟨rfl, rfl, rfl, by decide +kernel, rfl, by decide +kernel, by decide +kernel⟩
/-- _law_take -/
abbrev s23 : Stmt := top 35
abbrev N23 : List Str := ["_law_state", "_law_many"]
abbrev P23 : List Str := ["_law_state", "_law_many"]
noncomputable def b23 (cc : Nat → Cl) : S :=
  (seq (seti 0 (ret (.int 1)) (bin gadd (ixv 0 (ret (.int 1))) (ret (.int 1))))
  (sret (ocall (cc 21) 3 (cval (ixv 0 (ret (.int 0))) (cval (ixv 0 (ret (.int 1))) (cval (getv 1) (ret [])))))))
theorem sc23 : FnScope N23 P23 (defScope s23) := ⟨rfl, rfl, rfl, by decide +kernel, rfl, by decide +kernel, by decide +kernel⟩
/-- _law_common -/
abbrev s24 : Stmt := top 36
abbrev N24 : List Str := ["_law_one", "_law_other", "_law_k", "_law_rest"]
abbrev P24 : List Str := ["_law_one", "_law_other"]
noncomputable def b24 (cc : Nat → Cl) : S :=
  (seq (sfor (gnm 2) (icl rng1 (acons (bin gadd (bin gmul (ret (.int 2)) (una gbits (getv 1))) (ret (.int 3))) (ret []))) (seq (sif (tst (bin geq (getv 1) (ret (.int 0)))) (fl .bk) skip)
  (seq (sset 3 (val (bin gmod (cal (f1 gint) (acons (getv 0) (ret []))) (getv 1))))
  (seq (sset 0 (val (getv 1)))
  (sset 1 (val (getv 3)))))))
  (sret (val (getv 0))))
theorem sc24 : FnScope N24 P24 (defScope s24) := ⟨rfl, rfl, rfl, by decide +kernel, rfl, by decide +kernel, by decide +kernel⟩
/-- _law_pair -/
abbrev s25 : Stmt := top 37
abbrev N25 : List Str := ["_law_top", "_law_bottom", "_law_common_here"]
abbrev P25 : List Str := ["_law_top", "_law_bottom"]
noncomputable def b25 (cc : Nat → Cl) : S :=
  (seq (sset 2 (ocall (cc 24) 2 (cval (cal (f1 gabs) (acons (getv 0) (ret []))) (cval (getv 1) (ret [])))))
  (sret (val (dtup (acons (bin gdiv (getv 0) (getv 2)) (acons (bin gdiv (getv 1) (getv 2)) (ret [])))))))
theorem sc25 : FnScope N25 P25 (defScope s25) := ⟨rfl, rfl, rfl, by decide +kernel, rfl, by decide +kernel, by decide +kernel⟩
/-- _law_number -/
abbrev s26 : Stmt := top 38
abbrev N26 : List Str := ["_law_state"]
abbrev P26 : List Str := ["_law_state"]
noncomputable def b26 (cc : Nat → Cl) : S :=
  (seq (sif (tst (bin geq (frz (ocall (cc 23) 2 (clend 0 (cval (ret (.int 14)) (ret []))))) (ret (.int 0)))) (sret (ocall (cc 25) 2 (cval (bin gsub (bin gpow (frz (ocall (cc 23) 2 (clend 0 (cval (ret (.int 1000)) (ret []))))) (ret (.int 4))) (bin gpow (frz (ocall (cc 23) 2 (clend 0 (cval (ret (.int 1000)) (ret []))))) (ret (.int 3)))) (cval (bin gadd (ret (.int 1)) (bin gpow (frz (ocall (cc 23) 2 (clend 0 (cval (ret (.int 1000)) (ret []))))) (ret (.int 3)))) (ret []))))) skip)
  (sret (ocall (cc 25) 2 (cval (bin gsub (frz (ocall (cc 23) 2 (clend 0 (cval (ret (.int 9)) (ret []))))) (ret (.int 4))) (cval (bin gadd (ret (.int 1)) (frz (ocall (cc 23) 2 (clend 0 (cval (ret (.int 3)) (ret [])))))) (ret []))))))
theorem sc26 : FnScope N26 P26 (defScope s26) := ⟨rfl, rfl, rfl, by decide +kernel, rfl, by decide +kernel, by decide +kernel⟩
/-- _law_less -/
abbrev s27 : Stmt := top 39
abbrev N27 : List Str := ["_law_one", "_law_other"]
abbrev P27 : List Str := ["_law_one", "_law_other"]
noncomputable def b27 (cc : Nat → Cl) : S :=
  (sret (val (bin glt (bin gmul (bin gix (getv 0) (ret (.int 0))) (bin gix (getv 1) (ret (.int 1)))) (bin gmul (bin gix (getv 1) (ret (.int 0))) (bin gix (getv 0) (ret (.int 1)))))))
theorem sc27 : FnScope N27 P27 (defScope s27) := ⟨rfl, rfl, rfl, by decide +kernel, rfl, by decide +kernel, by decide +kernel⟩
/-- _law_with -/
abbrev s28 : Stmt := top 40
abbrev N28 : List Str := ["_law_among", "_law_number_here", "_law_lower", "_law_higher", "_law_one"]
abbrev P28 : List Str := ["_law_among", "_law_number_here"]
noncomputable def b28 (cc : Nat → Cl) : S :=
  (seq (sset 2 (lcomp [4] (its (getv 0)) (gnm 4) (tstV (frz (ocall (cc 27) 2 (cval (getv 4) (cval (getv 1) (ret [])))))) (getv 4)))
  (seq (sset 3 (lcomp [4] (its (getv 0)) (gnm 4) (tstV (frz (ocall (cc 27) 2 (cval (getv 1) (cval (getv 4) (ret [])))))) (getv 4)))
  (sret (nice (ntlM (acons (bin gadd (bin gadd (getv 2) (frz (dlst (acons (getv 1) (ret []))))) (getv 3)) (ret [])))))))
theorem sc28 : FnScope N28 P28 (defScope s28) := ⟨rfl, rfl, rfl, by decide +kernel, rfl, by decide +kernel, by decide +kernel⟩
/-- _law_names -/
abbrev s29 : Stmt := top 41
abbrev N29 : List Str := ["_law_state", "_law_menu", "_law_first", "_law_k"]
abbrev P29 : List Str := ["_law_state"]
noncomputable def b29 (cc : Nat → Cl) : S :=
  (seq (sset 1 (dlst (acons (ret (.str "a")) (acons (ret (.str "now")) (acons (ret (.str "tick")) (acons (ret (.str "zz")) (acons (ret (.str "b")) (acons (ret (.str "is")) (acons (ret (.str "abcdefgh")) (ret []))))))))))
  (seq (sset 2 (ocall (cc 23) 2 (clend 0 (cval (ret (.int 7)) (ret [])))))
  (sret (val (cal (f1 gtup) (acons (frz (lcomp [3] (icl rng1 (acons (bin gadd (ret (.int 1)) (frz (ocall (cc 23) 2 (clend 0 (cval (ret (.int 3)) (ret [])))))) (ret []))) (gnm 3) (ret true) (bin gix (getv 1) (bin gmod (cal (f1 gint) (acons (bin gadd (getv 2) (bin gmul (ret (.int 3)) (getv 3))) (ret []))) (ret (.int 7)))))) (ret [])))))))
theorem sc29 : FnScope N29 P29 (defScope s29) := ⟨rfl, rfl, rfl, by decide +kernel, rfl, by decide +kernel, by decide +kernel⟩
/-- _law_leaf -/
abbrev s30 : Stmt := top 42
abbrev N30 : List Str := ["_law_state", "_law_names_here", "_law_pick"]
abbrev P30 : List Str := ["_law_state", "_law_names_here"]
noncomputable def b30 (cc : Nat → Cl) : S :=
  (seq (sset 2 (ocall (cc 23) 2 (clend 0 (cval (ret (.int 5)) (ret [])))))
  (seq (sif (tst (bin glt (getv 2) (ret (.int 2)))) (sret (val (dtup (acons (ret (.str "now")) (ret []))))) skip)
  (seq (sif (tst (bin geq (getv 2) (ret (.int 2)))) (sret (val (dtup (acons (ret (.str "nothing")) (ret []))))) skip)
  (sret (val (dtup (acons (ret (.str "is")) (acons (bin gix (getv 1) (frz (ocall (cc 23) 2 (clend 0 (cval (cal (f1 glen) (acons (getv 1) (ret []))) (ret [])))))) (ret [])))))))))
theorem sc30 : FnScope N30 P30 (defScope s30) := ⟨rfl, rfl, rfl, by decide +kernel, rfl, by decide +kernel, by decide +kernel⟩
/-- _law_tree -/
abbrev s31 : Stmt := top 43
abbrev N31 : List Str := ["_law_state", "_law_names_here", "_law_room", "_law_pick", "_law_first", "_law_word", "_law_many", "_law_kids", "_law_k"]
abbrev P31 : List Str := ["_law_state", "_law_names_here", "_law_room"]
noncomputable def b31 (cc : Nat → Cl) : S :=
  (seq (sset 3 (ocall (cc 23) 2 (clend 0 (cval (ret (.int 16)) (ret [])))))
  (seq (sif (tor (tst (bin glt (getv 2) (ret (.int 2)))) (tst (bin geq (getv 3) (ret (.int 0))))) (sret (ocall (cc 30) 2 (clend 0 (cval (getv 1) (ret []))))) skip)
  (seq (sif (tst (bin glt (getv 3) (ret (.int 4)))) (sret (val (dtup (acons (bin gix (frz (dlst (acons (ret (.str "last")) (acons (ret (.str "first")) (acons (ret (.str "before")) (ret [])))))) (bin gsub (getv 3) (ret (.int 1)))) (acons (frz (ocall (cc 31) 3 (clend 0 (cval (getv 1) (cval (bin gsub (getv 2) (ret (.int 1))) (ret [])))))) (ret [])))))) skip)
  (seq (sif (tst (bin glt (getv 3) (ret (.int 7)))) (seq (sset 6 (val (bin gix (frz (dlst (acons (ret (.int 2)) (acons (ret (.int 2)) (acons (ret (.int 3)) (ret [])))))) (bin gsub (getv 3) (ret (.int 4))))))
  (sret (val (dtup (acons (bin gix (frz (dlst (acons (ret (.str "great")) (acons (ret (.str "least")) (acons (ret (.str "times")) (ret [])))))) (bin gsub (getv 3) (ret (.int 4)))) (acons (bin gadd (ret (.int 1)) (frz (ocall (cc 23) 2 (clend 0 (cval (getv 6) (ret [])))))) (acons (frz (ocall (cc 31) 3 (clend 0 (cval (getv 1) (cval (bin gsub (getv 2) (ret (.int 1))) (ret [])))))) (ret [])))))))) skip)
  (seq (sif (tst (bin geq (getv 3) (ret (.int 7)))) (seq (sset 6 (val (bin gadd (ret (.int 2)) (frz (ocall (cc 23) 2 (clend 0 (cval (ret (.int 2)) (ret []))))))))
  (sret (val (dtup (acons (ret (.str "circle")) (acons (getv 6) (acons (frz (ocall (cc 23) 2 (clend 0 (cval (getv 6) (ret []))))) (acons (frz (ocall (cc 31) 3 (clend 0 (cval (getv 1) (cval (bin gsub (getv 2) (ret (.int 1))) (ret [])))))) (ret []))))))))) skip)
  (seq (sif (tand (tst (bin glt (getv 3) (ret (.int 10)))) (tst (bin ggt (getv 2) (ret (.int 3))))) (seq (sset 7 (lcomp [8] (icl rng1 (acons (ret (.int 3)) (ret []))) (gnm 8) (ret true) (frz (ocall (cc 31) 3 (clend 0 (cval (getv 1) (cval (bin gdiv (bin gsub (getv 2) (ret (.int 1))) (ret (.int 3))) (ret []))))))))
  (sret (val (dtup (acons (ret (.str "if")) (acons (bin gix (getv 7) (ret (.int 0))) (acons (bin gix (getv 7) (ret (.int 1))) (acons (bin gix (getv 7) (ret (.int 2))) (ret []))))))))) skip)
  (seq (sif (tst (bin glt (getv 2) (ret (.int 3)))) (sret (val (dtup (acons (ret (.str "last")) (acons (frz (ocall (cc 30) 2 (clend 0 (cval (getv 1) (ret []))))) (ret [])))))) skip)
  (seq (sset 4 (val (bin gadd (ret (.int 1)) (frz (ocall (cc 23) 2 (clend 0 (cval (bin gsub (getv 2) (ret (.int 2))) (ret []))))))))
  (seq (sset 5 (val (bin gix (frz (dlst (acons (ret (.str "less")) (acons (ret (.str "same")) (acons (ret (.str "since")) (acons (ret (.str "among")) (acons (ret (.str "since")) (acons (ret (.str "among")) (acons (ret (.str "less")) (acons (ret (.str "same")) (ret []))))))))))) (bin gmod (cal (f1 gint) (acons (getv 3) (ret []))) (ret (.int 8))))))
  (sret (val (dtup (acons (getv 5) (acons (frz (ocall (cc 31) 3 (clend 0 (cval (getv 1) (cval (getv 4) (ret [])))))) (acons (frz (ocall (cc 31) 3 (clend 0 (cval (getv 1) (cval (bin gsub (bin gsub (getv 2) (ret (.int 1))) (getv 4)) (ret [])))))) (ret []))))))))))))))))
theorem sc31 : FnScope N31 P31 (defScope s31) := ⟨rfl, rfl, rfl, by decide +kernel, rfl, by decide +kernel, by decide +kernel⟩
/-- _law_row -/
abbrev s32 : Stmt := top 44
abbrev N32 : List Str := ["_law_state", "_law_names_here", "_law_most", "_law_row_here", "_law_k", "_law_number_here"]
abbrev P32 : List Str := ["_law_state", "_law_names_here", "_law_most"]
noncomputable def b32 (cc : Nat → Cl) : S :=
  (seq (sset 3 (dlst (ret [])))
  (seq (sfor (gnm 4) (icl rng1 (acons (frz (ocall (cc 23) 2 (clend 0 (cval (bin gadd (getv 2) (ret (.int 1))) (ret []))))) (ret []))) (seq (sset 5 (ocall (cc 26) 1 (clend 0 (ret []))))
  (seq (sif (tand (tst (bin ggt (lenv 3) (ret (.int 0)))) (tst (bin geq (frz (ocall (cc 23) 2 (clend 0 (cval (ret (.int 3)) (ret []))))) (ret (.int 0))))) (sset 5 (val (bin gix (ixv 3 (frz (ocall (cc 23) 2 (clend 0 (cval (lenv 3) (ret [])))))) (ret (.int 1))))) skip)
  (sdo (apnd 3 (dtup (acons (bin gix (getv 1) (frz (ocall (cc 23) 2 (clend 0 (cval (cal (f1 glen) (acons (getv 1) (ret []))) (ret [])))))) (acons (getv 5) (ret [])))))))))
  (sret (val (getv 3)))))
theorem sc32 : FnScope N32 P32 (defScope s32) := ⟨rfl, rfl, rfl, by decide +kernel, rfl, by decide +kernel, by decide +kernel⟩
/-- _law_others -/
abbrev s33 : Stmt := top 45
abbrev N33 : List Str := ["_law_state", "_law_among", "_law_others_here", "_law_k", "_law_top", "_law_one"]
abbrev P33 : List Str := ["_law_state", "_law_among"]
noncomputable def b33 (cc : Nat → Cl) : S :=
  (seq (sset 2 (val (dtup (ret []))))
  (seq (sfor (gnm 3) (icl rng1 (acons (ret (.int 60)) (ret []))) (sif (tst (bin glt (cal (f1 glen) (acons (getv 2) (ret []))) (cal (f1 glen) (acons (getv 1) (ret []))))) (sset 2 (ocall (cc 28) 2 (cval (getv 2) (cval (frz (ocall (cc 26) 1 (clend 0 (ret [])))) (ret []))))) skip))
  (seq (sset 4 (val (ret (.int 0))))
  (seq (sfor (gnm 5) (its (getv 2)) (sset 4 (val (cal (f2 gmax) (acons (getv 4) (acons (cal (f1 gabs) (acons (bin gix (getv 5) (ret (.int 0))) (ret []))) (ret [])))))))
  (seq (sfor (gnm 3) (icl rng1 (acons (bin gsub (cal (f1 glen) (acons (getv 1) (ret []))) (cal (f1 glen) (acons (getv 2) (ret [])))) (ret []))) (sset 2 (val (bin gadd (getv 2) (dtup (acons (dtup (acons (bin gadd (bin gadd (getv 4) (ret (.int 1))) (getv 3)) (acons (ret (.int 1)) (ret [])))) (ret [])))))))
  (sret (val (getv 2))))))))
theorem sc33 : FnScope N33 P33 (defScope s33) := ⟨rfl, rfl, rfl, by decide +kernel, rfl, by decide +kernel, by decide +kernel⟩
/-- _law_replaced -/
abbrev s34 : Stmt := top 46
abbrev N34 : List Str := ["_law_value", "_law_among", "_law_others_here"]
abbrev P34 : List Str := ["_law_value", "_law_among", "_law_others_here"]
noncomputable def b34 (cc : Nat → Cl) : S :=
  (seq (sif (tst (una gisN (getv 0))) (sret (val (ret .non))) skip)
  (sret (val (bin gix (getv 2) (ntidx (getn 1) (getv 0))))))
theorem sc34 : FnScope N34 P34 (defScope s34) := ⟨rfl, rfl, rfl, by decide +kernel, rfl, by decide +kernel, by decide +kernel⟩
/-- _law_alike -/
abbrev s35 : Stmt := top 47
abbrev N35 : List Str := ["_law_cells", "_law_twins", "_law_among", "_law_others_here", "_law_k", "_law_held", "_law_due", "_law_one"]
abbrev P35 : List Str := ["_law_cells", "_law_twins", "_law_among", "_law_others_here"]
noncomputable def b35 (cc : Nat → Cl) : S :=
  (seq (sif (tst (bin gne (cal (f1 glen) (acons (getv 0) (ret []))) (cal (f1 glen) (acons (getv 1) (ret []))))) (sret (val (ret (.bl false)))) skip)
  (seq (sfor (gnm 4) (icl rng1 (acons (cal (f1 glen) (acons (getv 0) (ret []))) (ret []))) (seq (sset 5 (val (cal (f1 gtup) (acons (frz (lcomp [7] (its (bin gix (bin gix (getv 0) (getv 4)) (ret (.int 2)))) (gnm 7) (ret true) (frz (ocall (cc 34) 3 (cval (getv 7) (clend 2 (cval (getv 3) (ret [])))))))) (ret [])))))
  (seq (sset 6 (val (dtup (acons (frz (ocall (cc 34) 3 (cval (bin gix (bin gix (getv 0) (getv 4)) (ret (.int 0))) (clend 2 (cval (getv 3) (ret [])))))) (acons (bin gix (bin gix (getv 0) (getv 4)) (ret (.int 1))) (acons (getv 5) (ret [])))))))
  (sif (tnot (tstV (frz (ocall (cc 22) 2 (cval (bin gix (getv 1) (getv 4)) (cval (getv 6) (ret []))))))) (sret (val (ret (.bl false)))) skip))))
  (sret (val (ret (.bl true))))))
theorem sc35 : FnScope N35 P35 (defScope s35) := ⟨rfl, rfl, rfl, by decide +kernel, rfl, by decide +kernel, by decide +kernel⟩
/-- law -/
abbrev s36 : Stmt := top 48
abbrev N36 : List Str := ["_law_script", "_law_state", "_law_names_here", "_law_tree_here", "_law_row_here", "_law_among", "_law_others_here", "_law_twin", "_law_cells", "_law_twins", "_law_k", "_law_name", "_law_number_here", "_law_due"]
abbrev P36 : List Str := ["_law_script"]
noncomputable def b36 (cc : Nat → Cl) : S :=
  (seq (sset 1 (dlst (acons (frz (ocall (cc 20) 1 (cval (getv 0) (ret [])))) (acons (ret (.int 0)) (ret [])))))
  (seq (sset 2 (ocall (cc 29) 1 (clend 1 (ret []))))
  (seq (sset 3 (ocall (cc 31) 3 (clend 1 (cval (getv 2) (cval (bin gadd (ret (.int 1)) (frz (ocall (cc 23) 2 (clend 1 (cval (ret (.int 9)) (ret [])))))) (ret []))))))
  (seq (sset 4 (ocall (cc 32) 3 (clend 1 (cval (getv 2) (cval (ret (.int 9)) (ret []))))))
  (seq (sset 5 (nice (ntup (ret []))))
  (seq (sfor (gtp 2 (gsc (gnm 11) (gsc (gnm 12) gsn))) (its (getv 4)) (sset 5 (ocall (cc 28) 2 (cval (getv 5) (cval (getv 12) (ret []))))))
  (seq (sset 6 (ocall (cc 33) 2 (clend 1 (cval (getv 5) (ret [])))))
  (seq (sset 7 (lcomp [11, 12] (its (getv 4)) (gtp 2 (gsc (gnm 11) (gsc (gnm 12) gsn))) (ret true) (dtup (acons (getv 11) (acons (frz (ocall (cc 34) 3 (cval (getv 12) (clend 5 (cval (getv 6) (ret [])))))) (ret []))))))
  (seq (sset 8 (ocall (cc 11) 1 (cval (getv 3) (ret []))))
  (seq (sset 9 (ocall (cc 11) 1 (cval (getv 3) (ret []))))
  (seq (sfor (gnm 10) (icl rng1 (acons (cal (f1 glen) (acons (getv 4) (ret []))) (ret []))) (seq (sset 8 (ocall (cc 19) 4 (cval (getv 3) (cval (getv 8) (cval (bin gix (bin gix (getv 4) (getv 10)) (ret (.int 0))) (cval (bin gix (bin gix (getv 4) (getv 10)) (ret (.int 1))) (ret [])))))))
  (seq (sset 9 (ocall (cc 19) 4 (cval (getv 3) (cval (getv 9) (cval (bin gix (bin gix (getv 7) (getv 10)) (ret (.int 0))) (cval (bin gix (bin gix (getv 7) (getv 10)) (ret (.int 1))) (ret [])))))))
  (seq (sset 13 (ocall (cc 34) 3 (cval (frz (ocall (cc 8) 2 (cval (getv 3) (cval (cut (getv 4) (ret none) (par (bin gadd (getv 10) (ret (.int 1))))) (ret []))))) (clend 5 (cval (getv 6) (ret []))))))
  (seq (sif (tor (tnot (tstV (frz (ocall (cc 22) 2 (cval (frz (ocall (cc 8) 2 (cval (getv 3) (cval (cut (getv 7) (ret none) (par (bin gadd (getv 10) (ret (.int 1))))) (ret []))))) (cval (getv 13) (ret []))))))) (tnot (tstV (frz (ocall (cc 22) 2 (cval (bin gix (bin gix (getv 9) (ret (.int 0))) (ret (.int 0))) (cval (getv 13) (ret [])))))))) (sret (val (ret (.bl false)))) skip)
  (sif (tnot (tstV (frz (ocall (cc 35) 4 (cval (getv 8) (cval (getv 9) (clend 5 (cval (getv 6) (ret []))))))))) (sret (val (ret (.bl false)))) skip))))))
  (sret (val (ret (.bl true)))))))))))))))
theorem sc36 : FnScope N36 P36 (defScope s36) := ⟨rfl, rfl, rfl, by decide +kernel, rfl, by decide +kernel, by decide +kernel⟩
noncomputable def bodies (cc : Nat → Cl) : Nat → Cl
  | 0 => runD 2 2 (b0 cc)
  | 1 => runD 2 4 (b1 cc)
  | 2 => runD 2 3 (b2 cc)
  | 3 => runD 2 4 (b3 cc)
  | 4 => runD 2 4 (b4 cc)
  | 5 => runD 2 4 (b5 cc)
  | 6 => runD 2 6 (b6 cc)
  | 7 => runD 2 4 (b7 cc)
  | 8 => runD 2 3 (b8 cc)
  | 9 => runD 1 2 (b9 cc)
  | 10 => runD 1 2 (b10 cc)
  | 11 => runD 1 2 (b11 cc)
  | 12 => runD 3 3 (b12 cc)
  | 13 => runD 3 5 (b13 cc)
  | 14 => runD 4 6 (b14 cc)
  | 15 => runD 4 5 (b15 cc)
  | 16 => runD 6 8 (b16 cc)
  | 17 => runD 2 6 (b17 cc)
  | 18 => runD 4 6 (b18 cc)
  | 19 => runD 4 11 (b19 cc)
  | 20 => runD 1 6 (b20 cc)
  | 21 => runD 3 4 (b21 cc)
  | 22 => runD 2 3 (b22 cc)
  | 23 => runD 2 2 (b23 cc)
  | 24 => runD 2 4 (b24 cc)
  | 25 => runD 2 3 (b25 cc)
  | 26 => runD 1 1 (b26 cc)
  | 27 => runD 2 2 (b27 cc)
  | 28 => runD 2 5 (b28 cc)
  | 29 => runD 1 4 (b29 cc)
  | 30 => runD 2 3 (b30 cc)
  | 31 => runD 3 9 (b31 cc)
  | 32 => runD 3 6 (b32 cc)
  | 33 => runD 2 6 (b33 cc)
  | 34 => runD 3 3 (b34 cc)
  | 35 => runD 4 8 (b35 cc)
  | 36 => runD 1 14 (b36 cc)
  | _ => fun _ => none
/-- n calls deep -/
noncomputable def call : Nat → Nat → Cl
  | 0 => fun _ _ => none
  | n + 1 => bodies (call n)
/-- what the top has left -/
structure Txt (K : PySem.W.Frag) (mg : Str → Option Value) (fa : Nat → Addr) (fd : Nat → FuncData) (ta : Nat → Addr) (Pm : Params) (cl : Nat → Addr) : Prop where
  f0 : Fun K "less" "less" s0 (fa 0) (fd 0)
  m0 : mg "less" = some (.ref (fa 0))
  b0 : Binds K (fd 0) P0 []
  f1 : Fun K "inserted" "inserted" s1 (fa 1) (fd 1)
  m1 : mg "inserted" = some (.ref (fa 1))
  b1 : Binds K (fd 1) P1 []
  f2 : Fun K "answers" "answers" s2 (fa 2) (fd 2)
  m2 : mg "answers" = some (.ref (fa 2))
  b2 : Binds K (fd 2) P2 []
  f3 : Fun K "compared" "compared" s3 (fa 3) (fd 3)
  m3 : mg "compared_meaning" = some (.ref (fa 3))
  b3 : Binds K (fd 3) P3 []
  f4 : Fun K "ordered" "ordered" s4 (fa 4) (fd 4)
  m4 : mg "ordered_meaning" = some (.ref (fa 4))
  b4 : Binds K (fd 4) P4 []
  f5 : Fun K "counted" "counted" s5 (fa 5) (fd 5)
  m5 : mg "counted_meaning" = some (.ref (fa 5))
  b5 : Binds K (fd 5) P5 []
  f6 : Fun K "picked" "picked" s6 (fa 6) (fd 6)
  m6 : mg "picked" = some (.ref (fa 6))
  b6 : Binds K (fd 6) P6 []
  f7 : Fun K "reached" "reached" s7 (fa 7) (fd 7)
  m7 : mg "reached" = some (.ref (fa 7))
  b7 : Binds K (fd 7) P7 []
  f8 : Fun K "meaning" "meaning" s8 (fa 8) (fd 8)
  m8 : mg "meaning" = some (.ref (fa 8))
  b8 : Binds K (fd 8) P8 []
  f9 : Fun K "children" "children" s9 (fa 9) (fd 9)
  m9 : mg "children" = some (.ref (fa 9))
  b9 : Binds K (fd 9) P9 []
  f10 : Fun K "parts" "parts" s10 (fa 10) (fd 10)
  m10 : mg "parts" = some (.ref (fa 10))
  b10 : Binds K (fd 10) P10 []
  f11 : Fun K "first_cells" "first_cells" s11 (fa 11) (fd 11)
  m11 : mg "first_cells" = some (.ref (fa 11))
  b11 : Binds K (fd 11) P11 []
  f12 : Fun K "compared" "compared" s12 (fa 12) (fd 12)
  m12 : mg "compared_memory" = some (.ref (fa 12))
  b12 : Binds K (fd 12) P12 []
  f13 : Fun K "ordered" "ordered" s13 (fa 13) (fd 13)
  m13 : mg "ordered_memory" = some (.ref (fa 13))
  b13 : Binds K (fd 13) P13 []
  f14 : Fun K "counted" "counted" s14 (fa 14) (fd 14)
  m14 : mg "counted_memory" = some (.ref (fa 14))
  b14 : Binds K (fd 14) P14 []
  f15 : Fun K "plain" "plain" s15 (fa 15) (fd 15)
  m15 : mg "plain" = some (.ref (fa 15))
  b15 : Binds K (fd 15) P15 []
  f16 : Fun K "own_cell" "own_cell" s16 (fa 16) (fd 16)
  m16 : mg "own_cell" = some (.ref (fa 16))
  b16 : Binds K (fd 16) P16 []
  f17 : Fun K "split" "split" s17 (fa 17) (fd 17)
  m17 : mg "split" = some (.ref (fa 17))
  b17 : Binds K (fd 17) P17 []
  f18 : Fun K "hear_split" "hear_split" s18 (fa 18) (fd 18)
  m18 : mg "hear_split" = some (.ref (fa 18))
  b18 : Binds K (fd 18) P18 []
  f19 : Fun K "hear_cells" "hear_cells" s19 (fa 19) (fd 19)
  m19 : mg "hear_cells" = some (.ref (fa 19))
  b19 : Binds K (fd 19) P19 []
  f20 : Fun K "_law_tape" "_law_tape" s20 (fa 20) (fd 20)
  m20 : mg "_law_tape" = some (.ref (fa 20))
  b20 : Binds K (fd 20) P20 []
  f21 : Fun K "_law_draw" "_law_draw" s21 (fa 21) (fd 21)
  m21 : mg "_law_draw" = some (.ref (fa 21))
  b21 : Binds K (fd 21) P21 []
  f22 : Fun K "_law_equal" "_law_equal" s22 (fa 22) (fd 22)
  m22 : mg "_law_equal" = some (.ref (fa 22))
  b22 : Binds K (fd 22) P22 []
  f23 : Fun K "_law_take" "_law_take" s23 (fa 23) (fd 23)
  m23 : mg "_law_take" = some (.ref (fa 23))
  b23 : Binds K (fd 23) P23 []
  f24 : Fun K "_law_common" "_law_common" s24 (fa 24) (fd 24)
  m24 : mg "_law_common" = some (.ref (fa 24))
  b24 : Binds K (fd 24) P24 []
  f25 : Fun K "_law_pair" "_law_pair" s25 (fa 25) (fd 25)
  m25 : mg "_law_pair" = some (.ref (fa 25))
  b25 : Binds K (fd 25) P25 []
  f26 : Fun K "_law_number" "_law_number" s26 (fa 26) (fd 26)
  m26 : mg "_law_number" = some (.ref (fa 26))
  b26 : Binds K (fd 26) P26 []
  f27 : Fun K "_law_less" "_law_less" s27 (fa 27) (fd 27)
  m27 : mg "_law_less" = some (.ref (fa 27))
  b27 : Binds K (fd 27) P27 []
  f28 : Fun K "_law_with" "_law_with" s28 (fa 28) (fd 28)
  m28 : mg "_law_with" = some (.ref (fa 28))
  b28 : Binds K (fd 28) P28 []
  f29 : Fun K "_law_names" "_law_names" s29 (fa 29) (fd 29)
  m29 : mg "_law_names" = some (.ref (fa 29))
  b29 : Binds K (fd 29) P29 []
  f30 : Fun K "_law_leaf" "_law_leaf" s30 (fa 30) (fd 30)
  m30 : mg "_law_leaf" = some (.ref (fa 30))
  b30 : Binds K (fd 30) P30 []
  f31 : Fun K "_law_tree" "_law_tree" s31 (fa 31) (fd 31)
  m31 : mg "_law_tree" = some (.ref (fa 31))
  b31 : Binds K (fd 31) P31 []
  f32 : Fun K "_law_row" "_law_row" s32 (fa 32) (fd 32)
  m32 : mg "_law_row" = some (.ref (fa 32))
  b32 : Binds K (fd 32) P32 []
  f33 : Fun K "_law_others" "_law_others" s33 (fa 33) (fd 33)
  m33 : mg "_law_others" = some (.ref (fa 33))
  b33 : Binds K (fd 33) P33 []
  f34 : Fun K "_law_replaced" "_law_replaced" s34 (fa 34) (fd 34)
  m34 : mg "_law_replaced" = some (.ref (fa 34))
  b34 : Binds K (fd 34) P34 []
  f35 : Fun K "_law_alike" "_law_alike" s35 (fa 35) (fd 35)
  m35 : mg "_law_alike" = some (.ref (fa 35))
  b35 : Binds K (fd 35) P35 []
  f36 : Fun K "law" "law" s36 (fa 36) (fd 36)
  m36 : mg "law" = some (.ref (fa 36))
  b36 : Binds K (fd 36) P36 []
  n_abs : mg "abs" = none
  n_bool : mg "bool" = none
  n_enumerate : mg "enumerate" = none
  n_int : mg "int" = none
  n_isinstance : mg "isinstance" = none
  n_len : mg "len" = none
  n_list : mg "list" = none
  n_max : mg "max" = none
  n_min : mg "min" = none
  n_range : mg "range" = none
  n_str : mg "str" = none
  n_sum : mg "sum" = none
  n_tuple : mg "tuple" = none
  n_zip : mg "zip" = none
  c_EMPTY : ∃ (v : V) (u : Value), mg "EMPTY" = some u ∧ RelV v u ∧ ∀ (F : Addr → Prop) (H : Hp), R K cl F H (.tup [.non, .int 0, .tup []]) v
section
variable {P : Program} {w : World} {K : PySem.W.Frag} {mg : Str → Option Value} {base : Heap} {fa : Nat → Addr} {fd : Nat → FuncData} {cl : Nat → Addr} {ta : Nat → Addr}
/-- the def keeps what its denotation says, at n calls deep -/
abbrev Ok (P : Program) (w : World) (K : PySem.W.Frag) (mg : Str → Option Value) (base : Heap) (fa : Nat → Addr) (fd : Nat → FuncData) (cl : Nat → Addr) (n k : Nat) (ps : List Str) : Prop :=
  FnOk P w K mg base (L2.CX P w) (2 * n) (fa k) (fd k) ps (spD K cl ps.length (call n k))
theorem ok0 (T : Txt K mg fa fd ta w.params cl) (n : Nat)  : Ok P w K mg base fa fd cl (n + 1) 0 P0 := by
  refine def_ok (k := 2 * n + 1) (N := N0) (body := b0 (call n)) T.f0 sc0 fun cd A outer s H E lk hr => ?_
  let C := cfOf (P := P) (w := w) (K := K) (mg := mg) (base := base) cl (2 * n + 1) N0 P0 "less" (defScope s0) (fa 0) cd A outer s H E sc0 hr
  show DB C lk (defBody s0) (b0 (call n))
  delta b0
  exact (b_one (s_ret (o_val (e_cmp d_lt (e_bin d_mul (e_ix (e_name (pv 0)) e_int (fun _ _ => rfl)) (e_ix (e_name (pv 1)) e_int (fun _ _ => rfl))) (e_bin d_mul (e_ix (e_name (pv 1)) e_int (fun _ _ => rfl)) (e_ix (e_name (pv 0)) e_int (fun _ _ => rfl))) (nomark _)))))
theorem ok1 (T : Txt K mg fa fd ta w.params cl) (n : Nat) (G0 : Ok P w K mg base fa fd cl n 0 P0) : Ok P w K mg base fa fd cl (n + 1) 1 P1 := by
  refine def_ok (k := 2 * n + 1) (N := N1) (body := b1 (call n)) T.f1 sc1 fun cd A outer s H E lk hr => ?_
  let C := cfOf (P := P) (w := w) (K := K) (mg := mg) (base := base) cl (2 * n + 1) N1 P1 "inserted" (defScope s1) (fa 1) cd A outer s H E sc1 hr
  show DB C lk (defBody s1) (b1 (call n))
  delta b1
  exact (b_cons (s_for (i_enum rfl T.n_enumerate (a_cons (e_name (pv 1)) a_nil)) (g_tup (gs_cons (g_name (i := 2) rfl (by first | exact Or.inl rfl | exact Or.inr rfl)) (gs_cons (g_name (i := 3) rfl (by first | exact Or.inl rfl | exact Or.inr rfl)) gs_nil))) (b_cons (s_if (t_cmp (d_eq C.hu64) (e_name (pv 3)) (e_name (pv 0)) (nomark _)) (b_one (s_ret (o_val (e_name (pv 1))))) b_nil)
  (b_one (s_if (t_tru (e_frz (o_call G0 (Nat.le_succ _) rfl T.m0 T.f0.kp T.b0 (c_val (e_name (pv 0)) (c_val (e_name (pv 3)) c_nil)))) (fun _ => rfl)) (b_one (s_ret (o_val (e_bin d_add (e_bin d_add (e_sl (e_name (pv 1)) p_none (p_some (e_name (pv 2)))) (e_tup (a_cons (e_name (pv 0)) a_nil))) (e_sl (e_name (pv 1)) (p_some (e_name (pv 2))) p_none))))) b_nil))))
  (b_one (s_ret (o_val (e_bin d_add (e_name (pv 1)) (e_tup (a_cons (e_name (pv 0)) a_nil)))))))
theorem ok2 (T : Txt K mg fa fd ta w.params cl) (n : Nat) (G8 : Ok P w K mg base fa fd cl n 8 P8) : Ok P w K mg base fa fd cl (n + 1) 2 P2 := by
  refine def_ok (k := 2 * n + 1) (N := N2) (body := b2 (call n)) T.f2 sc2 fun cd A outer s H E lk hr => ?_
  let C := cfOf (P := P) (w := w) (K := K) (mg := mg) (base := base) cl (2 * n + 1) N2 P2 "answers" (defScope s2) (fa 2) cd A outer s H E sc2 hr
  show DB C lk (defBody s2) (b2 (call n))
  delta b2
  exact (b_one (s_ret (o_lc (own := [("count", 2)]) { ok := blkOk_by (show blkC N2 (defScope s2) _ [("count", 2)] = true by decide +kernel), tg := fun _ _ _ _ _ _ => (g_name (i := 2) rfl (by first | exact Or.inl rfl | exact Or.inr rfl)), tt := fun _ _ _ _ _ => tt_nil, el := fun _ _ _ _ _ => (e_frz (o_call G8 (Nat.le_succ _) rfl T.m8 T.f8.kp T.b8 (c_val (e_name (pv 0)) (c_val (e_sl (e_name (pv 1)) p_none (p_some (e_bin d_add (e_name (pv 2)) e_int))) c_nil)))) } (i_range1 rfl T.n_range (a_cons (e_callB d_len rfl T.n_len (by decide +kernel) (a_cons (e_name (pv 1)) a_nil)) a_nil)))))
theorem ok3 (T : Txt K mg fa fd ta w.params cl) (n : Nat) (G0 : Ok P w K mg base fa fd cl n 0 P0) (G8 : Ok P w K mg base fa fd cl n 8 P8) : Ok P w K mg base fa fd cl (n + 1) 3 P3 := by
  refine def_ok (k := 2 * n + 1) (N := N3) (body := b3 (call n)) T.f3 sc3 fun cd A outer s H E lk hr => ?_
  let C := cfOf (P := P) (w := w) (K := K) (mg := mg) (base := base) cl (2 * n + 1) N3 P3 "compared" (defScope s3) (fa 3) cd A outer s H E sc3 hr
  show DB C lk (defBody s3) (b3 (call n))
  delta b3
  exact (b_cons (s_set (i := 2) rfl (by first | exact Or.inl rfl | exact Or.inr rfl) (o_call G8 (Nat.le_succ _) rfl T.m8 T.f8.kp T.b8 (c_val (e_ix (e_name (pv 0)) e_int (fun _ _ => rfl)) (c_val (e_name (pv 1)) c_nil))))
  (b_cons (s_set (i := 3) rfl (by first | exact Or.inl rfl | exact Or.inr rfl) (o_call G8 (Nat.le_succ _) rfl T.m8 T.f8.kp T.b8 (c_val (e_ix (e_name (pv 0)) e_int (fun _ _ => rfl)) (c_val (e_name (pv 1)) c_nil))))
  (b_cons (s_if (t_bool (w_or (t_isN (e_name (pv 2))) (w_or1 (t_isN (e_name (pv 3)))))) (b_one (s_ret (o_val e_non))) b_nil)
  (b_cons (s_if (t_cmp (d_eq C.hu64) (e_ix (e_name (pv 0)) e_int (fun _ _ => rfl)) e_str (nomark _)) (b_one (s_ret (o_val (e_if (t_tru (e_frz (o_call G0 (Nat.le_succ _) rfl T.m0 T.f0.kp T.b0 (c_val (e_name (pv 2)) (c_val (e_name (pv 3)) c_nil)))) (fun _ => rfl)) (e_name (pv 2)) e_non)))) b_nil)
  (b_one (s_ret (o_val (e_if (t_cmp (d_eq C.hu64) (e_name (pv 2)) (e_name (pv 3)) (nomark _)) (e_name (pv 2)) e_non))))))))
theorem ok4 (T : Txt K mg fa fd ta w.params cl) (n : Nat) (G2 : Ok P w K mg base fa fd cl n 2 P2) (G1 : Ok P w K mg base fa fd cl n 1 P1) : Ok P w K mg base fa fd cl (n + 1) 4 P4 := by
  refine def_ok (k := 2 * n + 1) (N := N4) (body := b4 (call n)) T.f4 sc4 fun cd A outer s H E lk hr => ?_
  let C := cfOf (P := P) (w := w) (K := K) (mg := mg) (base := base) cl (2 * n + 1) N4 P4 "ordered" (defScope s4) (fa 4) cd A outer s H E sc4 hr
  show DB C lk (defBody s4) (b4 (call n))
  delta b4
  exact (b_cons (s_set (i := 2) rfl (by first | exact Or.inl rfl | exact Or.inr rfl) (o_val (e_tup a_nil)))
  (b_cons (s_for (i_seq (e_frz (o_call G2 (Nat.le_succ _) rfl T.m2 T.f2.kp T.b2 (c_val (e_ix (e_name (pv 0)) e_int (fun _ _ => rfl)) (c_val (e_name (pv 1)) c_nil))))) (g_name (i := 3) rfl (by first | exact Or.inl rfl | exact Or.inr rfl)) (b_one (s_if (t_notN (e_name (pv 3))) (b_one (s_set (i := 2) rfl (by first | exact Or.inl rfl | exact Or.inr rfl) (o_call G1 (Nat.le_succ _) rfl T.m1 T.f1.kp T.b1 (c_val (e_name (pv 3)) (c_val (e_name (pv 2)) c_nil))))) b_nil)))
  (b_cons (s_if (t_cmp d_lt (e_callB d_len rfl T.n_len (by decide +kernel) (a_cons (e_name (pv 2)) a_nil)) (e_ix (e_name (pv 0)) e_int (fun _ _ => rfl)) (nomark _)) (b_one (s_ret (o_val e_non))) b_nil)
  (b_cons (s_if (t_cmp (d_eq C.hu64) (e_ix (e_name (pv 0)) e_int (fun _ _ => rfl)) e_str (nomark _)) (b_one (s_ret (o_val (e_ix (e_name (pv 2)) (e_bin d_sub (e_callB d_len rfl T.n_len (by decide +kernel) (a_cons (e_name (pv 2)) a_nil)) (e_ix (e_name (pv 0)) e_int (fun _ _ => rfl))) (fun _ _ => rfl))))) b_nil)
  (b_one (s_ret (o_val (e_ix (e_name (pv 2)) (e_bin d_sub (e_ix (e_name (pv 0)) e_int (fun _ _ => rfl)) e_int) (fun _ _ => rfl)))))))))
theorem ok5 (T : Txt K mg fa fd ta w.params cl) (n : Nat) (G2 : Ok P w K mg base fa fd cl n 2 P2) : Ok P w K mg base fa fd cl (n + 1) 5 P5 := by
  refine def_ok (k := 2 * n + 1) (N := N5) (body := b5 (call n)) T.f5 sc5 fun cd A outer s H E lk hr => ?_
  let C := cfOf (P := P) (w := w) (K := K) (mg := mg) (base := base) cl (2 * n + 1) N5 P5 "counted" (defScope s5) (fa 5) cd A outer s H E sc5 hr
  show DB C lk (defBody s5) (b5 (call n))
  delta b5
  exact (b_cons (s_set (i := 2) rfl (by first | exact Or.inl rfl | exact Or.inr rfl) (o_val (e_callB d_len rfl T.n_len (by decide +kernel) (a_cons (e_frz (o_lc (own := [("answer", 3)]) { ok := blkOk_by (show blkC N5 (defScope s5) _ [("answer", 3)] = true by decide +kernel), tg := fun _ _ _ _ _ _ => (g_name (i := 3) rfl (by first | exact Or.inl rfl | exact Or.inr rfl)), tt := fun _ _ _ _ _ => (tt_one (t_notN (e_name (pv 3)))), el := fun _ _ _ _ _ => (e_name (pv 3)) } (i_seq (e_frz (o_call G2 (Nat.le_succ _) rfl T.m2 T.f2.kp T.b2 (c_val (e_ix (e_name (pv 0)) (e_un d_neg e_int) (fun _ _ => rfl)) (c_val (e_name (pv 1)) c_nil))))))) a_nil))))
  (b_cons (s_if (t_cmp (d_eq C.hu64) (e_ix (e_name (pv 0)) e_int (fun _ _ => rfl)) e_str (nomark _)) (b_one (s_ret (o_val (e_if (t_cmp d_ge (e_name (pv 2)) (e_ix (e_name (pv 0)) e_int (fun _ _ => rfl)) (nomark _)) (e_ix (e_ix (e_name (pv 1)) (e_un d_neg e_int) (fun _ _ => rfl)) e_int (fun _ _ => rfl)) e_non)))) b_nil)
  (b_one (s_ret (o_val (e_if (t_cmp (d_eq C.hu64) (e_bin d_mod (e_name (pv 2)) (e_ix (e_name (pv 0)) e_int (fun _ _ => rfl))) (e_ix (e_name (pv 0)) e_int (fun _ _ => rfl)) (nomark _)) (e_ix (e_ix (e_name (pv 1)) (e_un d_neg e_int) (fun _ _ => rfl)) e_int (fun _ _ => rfl)) e_non))))))
theorem ok6 (T : Txt K mg fa fd ta w.params cl) (n : Nat) (G8 : Ok P w K mg base fa fd cl n 8 P8) (G2 : Ok P w K mg base fa fd cl n 2 P2) : Ok P w K mg base fa fd cl (n + 1) 6 P6 := by
  refine def_ok (k := 2 * n + 1) (N := N6) (body := b6 (call n)) T.f6 sc6 fun cd A outer s H E lk hr => ?_
  let C := cfOf (P := P) (w := w) (K := K) (mg := mg) (base := base) cl (2 * n + 1) N6 P6 "picked" (defScope s6) (fa 6) cd A outer s H E sc6 hr
  show DB C lk (defBody s6) (b6 (call n))
  delta b6
  exact (b_cons (s_set (i := 2) rfl (by first | exact Or.inl rfl | exact Or.inr rfl) (o_call G2 (Nat.le_succ _) rfl T.m2 T.f2.kp T.b2 (c_val (e_ix (e_name (pv 0)) e_int (fun _ _ => rfl)) (c_val (e_name (pv 1)) c_nil))))
  (b_cons (s_if (t_cmp (d_eq C.hu64) (e_ix (e_name (pv 0)) e_int (fun _ _ => rfl)) e_str (nomark _)) (b_one (s_ret (o_call G8 (Nat.le_succ _) rfl T.m8 T.f8.kp T.b8 (c_val (e_ix (e_name (pv 0)) e_int (fun _ _ => rfl)) (c_val (e_frz (o_lc (own := [("index", 4)]) { ok := blkOk_by (show blkC N6 (defScope s6) _ [("index", 4)] = true by decide +kernel), tg := fun _ _ _ _ _ _ => (g_name (i := 4) rfl (by first | exact Or.inl rfl | exact Or.inr rfl)), tt := fun _ _ _ _ _ => (tt_one (t_notN (e_ix (e_name (pv 2)) (e_name (pv 4)) (fun _ _ => rfl)))), el := fun _ _ _ _ _ => (e_ix (e_name (pv 1)) (e_name (pv 4)) (fun _ _ => rfl)) } (i_range1 rfl T.n_range (a_cons (e_callB d_len rfl T.n_len (by decide +kernel) (a_cons (e_name (pv 1)) a_nil)) a_nil)))) c_nil))))) b_nil)
  (b_cons (s_set (i := 3) rfl (by first | exact Or.inl rfl | exact Or.inr rfl) (o_val e_int))
  (b_cons (s_for (i_enum rfl T.n_enumerate (a_cons (e_name (pv 2)) a_nil)) (g_tup (gs_cons (g_name (i := 4) rfl (by first | exact Or.inl rfl | exact Or.inr rfl)) (gs_cons (g_name (i := 5) rfl (by first | exact Or.inl rfl | exact Or.inr rfl)) gs_nil))) (b_one (s_if (t_notN (e_name (pv 5))) (b_one (s_set (i := 3) rfl (by first | exact Or.inl rfl | exact Or.inr rfl) (o_val (e_bin d_add (e_name (pv 4)) e_int)))) b_nil)))
  (b_one (s_ret (o_call G8 (Nat.le_succ _) rfl T.m8 T.f8.kp T.b8 (c_val (e_ix (e_name (pv 0)) e_int (fun _ _ => rfl)) (c_val (e_sl (e_name (pv 1)) (p_some (e_name (pv 3))) p_none) c_nil)))))))))
theorem ok7 (T : Txt K mg fa fd ta w.params cl) (n : Nat) (G2 : Ok P w K mg base fa fd cl n 2 P2) : Ok P w K mg base fa fd cl (n + 1) 7 P7 := by
  refine def_ok (k := 2 * n + 1) (N := N7) (body := b7 (call n)) T.f7 sc7 fun cd A outer s H E lk hr => ?_
  let C := cfOf (P := P) (w := w) (K := K) (mg := mg) (base := base) cl (2 * n + 1) N7 P7 "reached" (defScope s7) (fa 7) cd A outer s H E sc7 hr
  show DB C lk (defBody s7) (b7 (call n))
  delta b7
  exact (b_cons (s_setLc (i := 2) (own := [("answer", 3)]) rfl rfl (sw_true rfl rfl rfl (by decide +kernel)) { ok := blkOk_by (show blkC N7 (defScope s7) _ [("answer", 3)] = true by decide +kernel), tg := fun _ _ _ _ _ _ => (g_name (i := 3) rfl (by first | exact Or.inl rfl | exact Or.inr rfl)), tt := fun _ _ _ _ _ => (tt_one (t_notN (e_name (pv 3)))), el := fun _ _ _ _ _ => (e_name (pv 3)) } (i_seq (e_frz (o_call G2 (Nat.le_succ _) rfl T.m2 T.f2.kp T.b2 (c_val (e_ix (e_name (pv 0)) e_int (fun _ _ => rfl)) (c_val (e_name (pv 1)) c_nil))))))
  (b_cons (s_if (t_not (t_tru (e_name (pv 2)) (fun _ => rfl))) (b_one (s_ret (o_val e_non))) b_nil)
  (b_one (s_ret (o_val (e_if (t_cmp (d_eq C.hu64) (e_ix (e_name (pv 0)) e_int (fun _ _ => rfl)) e_str (nomark _)) (e_ix (e_name (pv 2)) (e_un d_neg e_int) (fun _ _ => rfl)) (e_ix (e_name (pv 2)) e_int (fun _ _ => rfl))))))))
theorem ok8 (T : Txt K mg fa fd ta w.params cl) (n : Nat) (G6 : Ok P w K mg base fa fd cl n 6 P6) (G5 : Ok P w K mg base fa fd cl n 5 P5) (G4 : Ok P w K mg base fa fd cl n 4 P4) (G8 : Ok P w K mg base fa fd cl n 8 P8) (G7 : Ok P w K mg base fa fd cl n 7 P7) (G3 : Ok P w K mg base fa fd cl n 3 P3) : Ok P w K mg base fa fd cl (n + 1) 8 P8 := by
  refine def_ok (k := 2 * n + 1) (N := N8) (body := b8 (call n)) T.f8 sc8 fun cd A outer s H E lk hr => ?_
  let C := cfOf (P := P) (w := w) (K := K) (mg := mg) (base := base) cl (2 * n + 1) N8 P8 "meaning" (defScope s8) (fa 8) cd A outer s H E sc8 hr
  show DB C lk (defBody s8) (b8 (call n))
  delta b8
  exact (b_cons (s_set (i := 2) rfl (by first | exact Or.inl rfl | exact Or.inr rfl) (o_val (e_ix (e_name (pv 0)) e_int (fun _ _ => rfl))))
  (b_cons (s_if (t_bool (w_or (t_not (t_tru (e_name (pv 1)) (fun _ => rfl))) (w_or1 (t_cmp (d_eq C.hu64) (e_name (pv 2)) e_str (nomark _))))) (b_one (s_ret (o_val e_non))) b_nil)
  (b_cons (s_if (t_cmp (d_eq C.hu64) (e_name (pv 2)) e_str (nomark _)) (b_one (s_ret (o_val (e_ix (e_ix (e_name (pv 1)) (e_un d_neg e_int) (fun _ _ => rfl)) e_int (fun _ _ => rfl))))) b_nil)
  (b_cons (s_if (t_cmp (d_eq C.hu64) (e_name (pv 2)) e_str (nomark _)) (b_one (s_ret (o_val (e_if (t_cmp (d_eq C.hu64) (e_ix (e_ix (e_name (pv 1)) (e_un d_neg e_int) (fun _ _ => rfl)) e_int (fun _ _ => rfl)) (e_ix (e_name (pv 0)) e_int (fun _ _ => rfl)) (nomark _)) (e_ix (e_ix (e_name (pv 1)) (e_un d_neg e_int) (fun _ _ => rfl)) e_int (fun _ _ => rfl)) e_non)))) b_nil)
  (b_cons (s_if (t_cmp (d_in C.hu65) (e_name (pv 2)) (e_tup (a_cons e_str (a_cons e_str a_nil))) (by with_unfolding_all rfl)) (b_one (s_ret (o_call G3 (Nat.le_succ _) rfl T.m3 T.f3.kp T.b3 (c_val (e_name (pv 0)) (c_val (e_name (pv 1)) c_nil))))) b_nil)
  (b_cons (s_if (t_cmp (d_eq C.hu64) (e_name (pv 2)) e_str (nomark _)) (b_cons (s_if (t_isN (e_frz (o_call G8 (Nat.le_succ _) rfl T.m8 T.f8.kp T.b8 (c_val (e_ix (e_name (pv 0)) e_int (fun _ _ => rfl)) (c_val (e_name (pv 1)) c_nil))))) (b_one (s_ret (o_call G8 (Nat.le_succ _) rfl T.m8 T.f8.kp T.b8 (c_val (e_ix (e_name (pv 0)) e_int (fun _ _ => rfl)) (c_val (e_name (pv 1)) c_nil))))) b_nil)
  (b_one (s_ret (o_call G8 (Nat.le_succ _) rfl T.m8 T.f8.kp T.b8 (c_val (e_ix (e_name (pv 0)) e_int (fun _ _ => rfl)) (c_val (e_name (pv 1)) c_nil)))))) b_nil)
  (b_cons (s_if (t_cmp (d_in C.hu65) (e_name (pv 2)) (e_tup (a_cons e_str (a_cons e_str a_nil))) (by with_unfolding_all rfl)) (b_one (s_ret (o_call G7 (Nat.le_succ _) rfl T.m7 T.f7.kp T.b7 (c_val (e_name (pv 0)) (c_val (e_name (pv 1)) c_nil))))) b_nil)
  (b_cons (s_if (t_cmp (d_eq C.hu64) (e_name (pv 2)) e_str (nomark _)) (b_one (s_ret (o_call G8 (Nat.le_succ _) rfl T.m8 T.f8.kp T.b8 (c_val (e_ix (e_name (pv 0)) e_int (fun _ _ => rfl)) (c_val (e_sl (e_name (pv 1)) p_none (p_some (e_un d_neg e_int))) c_nil))))) b_nil)
  (b_cons (s_if (t_cmp (d_in C.hu65) (e_name (pv 2)) (e_tup (a_cons e_str (a_cons e_str a_nil))) (by with_unfolding_all rfl)) (b_one (s_ret (o_call G4 (Nat.le_succ _) rfl T.m4 T.f4.kp T.b4 (c_val (e_name (pv 0)) (c_val (e_name (pv 1)) c_nil))))) b_nil)
  (b_cons (s_if (t_cmp (d_in C.hu65) (e_name (pv 2)) (e_tup (a_cons e_str (a_cons e_str a_nil))) (by with_unfolding_all rfl)) (b_one (s_ret (o_call G5 (Nat.le_succ _) rfl T.m5 T.f5.kp T.b5 (c_val (e_name (pv 0)) (c_val (e_name (pv 1)) c_nil))))) b_nil)
  (b_one (s_ret (o_call G6 (Nat.le_succ _) rfl T.m6 T.f6.kp T.b6 (c_val (e_name (pv 0)) (c_val (e_name (pv 1)) c_nil)))))))))))))))
theorem ok9 (T : Txt K mg fa fd ta w.params cl) (n : Nat)  : Ok P w K mg base fa fd cl (n + 1) 9 P9 := by
  refine def_ok (k := 2 * n + 1) (N := N9) (body := b9 (call n)) T.f9 sc9 fun cd A outer s H E lk hr => ?_
  let C := cfOf (P := P) (w := w) (K := K) (mg := mg) (base := base) cl (2 * n + 1) N9 P9 "children" (defScope s9) (fa 9) cd A outer s H E sc9 hr
  show DB C lk (defBody s9) (b9 (call n))
  delta b9
  exact (b_one (s_ret (o_lc (own := [("piece", 1)]) { ok := blkOk_by (show blkC N9 (defScope s9) _ [("piece", 1)] = true by decide +kernel), tg := fun _ _ _ _ _ _ => (g_name (i := 1) rfl (by first | exact Or.inl rfl | exact Or.inr rfl)), tt := fun _ _ _ _ _ => (tt_one (t_tru (e_isi .tuple rfl rfl T.n_isinstance boot_isi (e_name (pv 1)) rfl T.n_tuple (by decide +kernel)) (fun _ => rfl))), el := fun _ _ _ _ _ => (e_name (pv 1)) } (i_seq (e_sl (e_name (pv 0)) (p_some e_int) p_none)))))
theorem ok10 (T : Txt K mg fa fd ta w.params cl) (n : Nat) (G9 : Ok P w K mg base fa fd cl n 9 P9) (G10 : Ok P w K mg base fa fd cl n 10 P10) : Ok P w K mg base fa fd cl (n + 1) 10 P10 := by
  refine def_ok (k := 2 * n + 1) (N := N10) (body := b10 (call n)) T.f10 sc10 fun cd A outer s H E lk hr => ?_
  let C := cfOf (P := P) (w := w) (K := K) (mg := mg) (base := base) cl (2 * n + 1) N10 P10 "parts" (defScope s10) (fa 10) cd A outer s H E sc10 hr
  show DB C lk (defBody s10) (b10 (call n))
  delta b10
  exact (b_one (s_ret (o_val (e_bin d_add e_int (e_callB (d_sum C.calm) rfl T.n_sum (by decide +kernel) (a_cons (e_frz (o_lc (own := [("piece", 1)]) { ok := blkOk_by (show blkC N10 (defScope s10) _ [("piece", 1)] = true by decide +kernel), tg := fun _ _ _ _ _ _ => (g_name (i := 1) rfl (by first | exact Or.inl rfl | exact Or.inr rfl)), tt := fun _ _ _ _ _ => tt_nil, el := fun _ _ _ _ _ => (e_frz (o_call G10 (Nat.le_succ _) rfl T.m10 T.f10.kp T.b10 (c_val (e_name (pv 1)) c_nil))) } (i_seq (e_frz (o_call G9 (Nat.le_succ _) rfl T.m9 T.f9.kp T.b9 (c_val (e_name (pv 0)) c_nil)))))) a_nil))))))
theorem ok11 (T : Txt K mg fa fd ta w.params cl) (n : Nat) (G10 : Ok P w K mg base fa fd cl n 10 P10) : Ok P w K mg base fa fd cl (n + 1) 11 P11 := by
  refine def_ok (k := 2 * n + 1) (N := N11) (body := b11 (call n)) T.f11 sc11 fun cd A outer s H E lk hr => ?_
  let C := cfOf (P := P) (w := w) (K := K) (mg := mg) (base := base) cl (2 * n + 1) N11 P11 "first_cells" (defScope s11) (fa 11) cd A outer s H E sc11 hr
  show DB C lk (defBody s11) (b11 (call n))
  delta b11
  exact (b_one (s_ret (o_lc (own := [("_", 1)]) { ok := blkOk_by (show blkC N11 (defScope s11) _ [("_", 1)] = true by decide +kernel), tg := fun _ _ _ _ _ _ => (g_name (i := 1) rfl (by first | exact Or.inl rfl | exact Or.inr rfl)), tt := fun _ _ _ _ _ => tt_nil, el := fun _ _ _ _ _ => (e_globD T.c_EMPTY rfl) } (i_range1 rfl T.n_range (a_cons (e_frz (o_call G10 (Nat.le_succ _) rfl T.m10 T.f10.kp T.b10 (c_val (e_name (pv 0)) c_nil))) a_nil)))))
theorem ok12 (T : Txt K mg fa fd ta w.params cl) (n : Nat) (G0 : Ok P w K mg base fa fd cl n 0 P0) : Ok P w K mg base fa fd cl (n + 1) 12 P12 := by
  refine def_ok (k := 2 * n + 1) (N := N12) (body := b12 (call n)) T.f12 sc12 fun cd A outer s H E lk hr => ?_
  let C := cfOf (P := P) (w := w) (K := K) (mg := mg) (base := base) cl (2 * n + 1) N12 P12 "compared" (defScope s12) (fa 12) cd A outer s H E sc12 hr
  show DB C lk (defBody s12) (b12 (call n))
  delta b12
  exact (b_cons (s_if (t_bool (w_or (t_isN (e_name (pv 1))) (w_or1 (t_isN (e_name (pv 2)))))) (b_one (s_ret (o_val e_non))) b_nil)
  (b_cons (s_if (t_cmp (d_eq C.hu64) (e_name (pv 0)) e_str (nomark _)) (b_one (s_ret (o_val (e_if (t_tru (e_frz (o_call G0 (Nat.le_succ _) rfl T.m0 T.f0.kp T.b0 (c_val (e_name (pv 1)) (c_val (e_name (pv 2)) c_nil)))) (fun _ => rfl)) (e_name (pv 1)) e_non)))) b_nil)
  (b_one (s_ret (o_val (e_if (t_cmp (d_eq C.hu64) (e_name (pv 1)) (e_name (pv 2)) (nomark _)) (e_name (pv 1)) e_non))))))
theorem ok13 (T : Txt K mg fa fd ta w.params cl) (n : Nat) (G1 : Ok P w K mg base fa fd cl n 1 P1) : Ok P w K mg base fa fd cl (n + 1) 13 P13 := by
  refine def_ok (k := 2 * n + 1) (N := N13) (body := b13 (call n)) T.f13 sc13 fun cd A outer s H E lk hr => ?_
  let C := cfOf (P := P) (w := w) (K := K) (mg := mg) (base := base) cl (2 * n + 1) N13 P13 "ordered" (defScope s13) (fa 13) cd A outer s H E sc13 hr
  show DB C lk (defBody s13) (b13 (call n))
  delta b13
  exact (b_cons (s_set (i := 3) rfl (by first | exact Or.inl rfl | exact Or.inr rfl) (o_val (e_ix (e_name (pv 1)) e_int (fun _ _ => rfl))))
  (b_cons (s_if (t_notN (e_name (pv 2))) (b_one (s_set (i := 3) rfl (by first | exact Or.inl rfl | exact Or.inr rfl) (o_call G1 (Nat.le_succ _) rfl T.m1 T.f1.kp T.b1 (c_val (e_name (pv 2)) (c_val (e_name (pv 3)) c_nil))))) b_nil)
  (b_cons (s_if (t_cmp (d_eq C.hu64) (e_ix (e_name (pv 0)) e_int (fun _ _ => rfl)) e_str (nomark _)) (b_cons (s_set (i := 3) rfl (by first | exact Or.inl rfl | exact Or.inr rfl) (o_val (e_sl (e_name (pv 3)) (p_some (e_callB (d_max C.calm) rfl T.n_max (by decide +kernel) (a_cons e_int (a_cons (e_bin d_sub (e_callB d_len rfl T.n_len (by decide +kernel) (a_cons (e_name (pv 3)) a_nil)) (e_ix (e_name (pv 0)) e_int (fun _ _ => rfl))) a_nil)))) p_none)))
  (b_one (s_set (i := 4) rfl (by first | exact Or.inl rfl | exact Or.inr rfl) (o_val (e_if (t_cmp (d_eq C.hu64) (e_callB d_len rfl T.n_len (by decide +kernel) (a_cons (e_name (pv 3)) a_nil)) (e_ix (e_name (pv 0)) e_int (fun _ _ => rfl)) (nomark _)) (e_ix (e_name (pv 3)) e_int (fun _ _ => rfl)) e_non))))) (b_cons (s_set (i := 3) rfl (by first | exact Or.inl rfl | exact Or.inr rfl) (o_val (e_sl (e_name (pv 3)) p_none (p_some (e_ix (e_name (pv 0)) e_int (fun _ _ => rfl))))))
  (b_one (s_set (i := 4) rfl (by first | exact Or.inl rfl | exact Or.inr rfl) (o_val (e_if (t_cmp (d_eq C.hu64) (e_callB d_len rfl T.n_len (by decide +kernel) (a_cons (e_name (pv 3)) a_nil)) (e_ix (e_name (pv 0)) e_int (fun _ _ => rfl)) (nomark _)) (e_ix (e_name (pv 3)) (e_un d_neg e_int) (fun _ _ => rfl)) e_non))))))
  (b_one (s_ret (o_val (e_tup (a_cons (e_name (pv 4)) (a_cons (e_ix (e_name (pv 1)) e_int (fun _ _ => rfl)) (a_cons (e_name (pv 3)) a_nil))))))))))
theorem ok14 (T : Txt K mg fa fd ta w.params cl) (n : Nat)  : Ok P w K mg base fa fd cl (n + 1) 14 P14 := by
  refine def_ok (k := 2 * n + 1) (N := N14) (body := b14 (call n)) T.f14 sc14 fun cd A outer s H E lk hr => ?_
  let C := cfOf (P := P) (w := w) (K := K) (mg := mg) (base := base) cl (2 * n + 1) N14 P14 "counted" (defScope s14) (fa 14) cd A outer s H E sc14 hr
  show DB C lk (defBody s14) (b14 (call n))
  delta b14
  exact (b_cons (s_set (i := 4) rfl (by first | exact Or.inl rfl | exact Or.inr rfl) (o_val (e_ix (e_name (pv 1)) e_int (fun _ _ => rfl))))
  (b_cons (s_if (t_notN (e_name (pv 2))) (b_one (s_set (i := 4) rfl (by first | exact Or.inl rfl | exact Or.inr rfl) (o_val (e_if (t_cmp (d_eq C.hu64) (e_ix (e_name (pv 0)) e_int (fun _ _ => rfl)) e_str (nomark _)) (e_callB (d_min C.calm) rfl T.n_min (by decide +kernel) (a_cons (e_bin d_add (e_name (pv 4)) e_int) (a_cons (e_ix (e_name (pv 0)) e_int (fun _ _ => rfl)) a_nil))) (e_bin d_mod (e_bin d_add (e_name (pv 4)) e_int) (e_ix (e_name (pv 0)) e_int (fun _ _ => rfl))))))) b_nil)
  (b_cons (s_set (i := 5) rfl (by first | exact Or.inl rfl | exact Or.inr rfl) (o_val (e_if (t_cmp (d_eq C.hu64) (e_ix (e_name (pv 0)) e_int (fun _ _ => rfl)) e_str (nomark _)) (e_ix (e_name (pv 0)) e_int (fun _ _ => rfl)) (e_ix (e_name (pv 0)) e_int (fun _ _ => rfl)))))
  (b_one (s_ret (o_val (e_tup (a_cons (e_if (t_cmp (d_eq C.hu64) (e_name (pv 4)) (e_name (pv 5)) (nomark _)) (e_name (pv 3)) e_non) (a_cons (e_name (pv 4)) (a_cons (e_ix (e_name (pv 1)) e_int (fun _ _ => rfl)) a_nil))))))))))
theorem ok15 (T : Txt K mg fa fd ta w.params cl) (n : Nat) (G12 : Ok P w K mg base fa fd cl n 12 P12) : Ok P w K mg base fa fd cl (n + 1) 15 P15 := by
  refine def_ok (k := 2 * n + 1) (N := N15) (body := b15 (call n)) T.f15 sc15 fun cd A outer s H E lk hr => ?_
  let C := cfOf (P := P) (w := w) (K := K) (mg := mg) (base := base) cl (2 * n + 1) N15 P15 "plain" (defScope s15) (fa 15) cd A outer s H E sc15 hr
  show DB C lk (defBody s15) (b15 (call n))
  delta b15
  exact (b_cons (s_set (i := 4) rfl (by first | exact Or.inl rfl | exact Or.inr rfl) (o_val (e_ix (e_name (pv 0)) e_int (fun _ _ => rfl))))
  (b_cons (s_if (t_cmp (d_eq C.hu64) (e_name (pv 4)) e_str (nomark _)) (b_one (s_ret (o_val (e_name (pv 3))))) b_nil)
  (b_cons (s_if (t_cmp (d_eq C.hu64) (e_name (pv 4)) e_str (nomark _)) (b_one (s_ret (o_val (e_if (t_cmp (d_eq C.hu64) (e_name (pv 2)) (e_ix (e_name (pv 0)) e_int (fun _ _ => rfl)) (nomark _)) (e_name (pv 3)) e_non)))) b_nil)
  (b_cons (s_if (t_cmp (d_in C.hu65) (e_name (pv 4)) (e_tup (a_cons e_str (a_cons e_str a_nil))) (by with_unfolding_all rfl)) (b_one (s_ret (o_call G12 (Nat.le_succ _) rfl T.m12 T.f12.kp T.b12 (c_val (e_name (pv 4)) (c_val (e_ix (e_name (pv 1)) e_int (fun _ _ => rfl)) (c_val (e_ix (e_name (pv 1)) e_int (fun _ _ => rfl)) c_nil)))))) b_nil)
  (b_cons (s_if (t_cmp (d_eq C.hu64) (e_name (pv 4)) e_str (nomark _)) (b_one (s_ret (o_val (e_if (t_isN (e_ix (e_name (pv 1)) e_int (fun _ _ => rfl))) (e_ix (e_name (pv 1)) e_int (fun _ _ => rfl)) (e_ix (e_name (pv 1)) e_int (fun _ _ => rfl)))))) b_nil)
  (b_one (s_ret (o_val e_non))))))))
theorem ok16 (T : Txt K mg fa fd ta w.params cl) (n : Nat) (G15 : Ok P w K mg base fa fd cl n 15 P15) (G14 : Ok P w K mg base fa fd cl n 14 P14) (G13 : Ok P w K mg base fa fd cl n 13 P13) : Ok P w K mg base fa fd cl (n + 1) 16 P16 := by
  refine def_ok (k := 2 * n + 1) (N := N16) (body := b16 (call n)) T.f16 sc16 fun cd A outer s H E lk hr => ?_
  let C := cfOf (P := P) (w := w) (K := K) (mg := mg) (base := base) cl (2 * n + 1) N16 P16 "own_cell" (defScope s16) (fa 16) cd A outer s H E sc16 hr
  show DB C lk (defBody s16) (b16 (call n))
  delta b16
  exact (b_cons (s_set (i := 6) rfl (by first | exact Or.inl rfl | exact Or.inr rfl) (o_val (e_ix (e_name (pv 0)) e_int (fun _ _ => rfl))))
  (b_cons (s_if (t_cmp (d_in C.hu65) (e_name (pv 6)) (e_tup (a_cons e_str (a_cons e_str a_nil))) (by with_unfolding_all rfl)) (b_one (s_ret (o_call G13 (Nat.le_succ _) rfl T.m13 T.f13.kp T.b13 (c_val (e_name (pv 0)) (c_val (e_name (pv 1)) (c_val (e_ix (e_name (pv 2)) e_int (fun _ _ => rfl)) c_nil)))))) b_nil)
  (b_cons (s_if (t_cmp (d_in C.hu65) (e_name (pv 6)) (e_tup (a_cons e_str (a_cons e_str a_nil))) (by with_unfolding_all rfl)) (b_one (s_ret (o_call G14 (Nat.le_succ _) rfl T.m14 T.f14.kp T.b14 (c_val (e_name (pv 0)) (c_val (e_name (pv 1)) (c_val (e_ix (e_name (pv 2)) e_int (fun _ _ => rfl)) (c_val (e_name (pv 5)) c_nil))))))) b_nil)
  (b_cons (s_if (t_cmp (d_eq C.hu64) (e_name (pv 6)) e_str (nomark _)) (b_one (s_set (i := 7) rfl (by first | exact Or.inl rfl | exact Or.inr rfl) (o_val (e_if (t_isN (e_ix (e_name (pv 2)) e_int (fun _ _ => rfl))) (e_ix (e_name (pv 1)) e_int (fun _ _ => rfl)) (e_ix (e_name (pv 2)) e_int (fun _ _ => rfl)))))) (b_one (s_if (t_cmp (d_eq C.hu64) (e_name (pv 6)) e_str (nomark _)) (b_one (s_set (i := 7) rfl (by first | exact Or.inl rfl | exact Or.inr rfl) (o_val (e_if (t_isN (e_ix (e_name (pv 1)) e_int (fun _ _ => rfl))) (e_ix (e_name (pv 2)) e_int (fun _ _ => rfl)) (e_ix (e_name (pv 1)) e_int (fun _ _ => rfl)))))) (b_one (s_if (t_cmp (d_eq C.hu64) (e_name (pv 6)) e_str (nomark _)) (b_one (s_set (i := 7) rfl (by first | exact Or.inl rfl | exact Or.inr rfl) (o_val (e_ix (e_name (pv 3)) e_int (fun _ _ => rfl))))) (b_one (s_set (i := 7) rfl (by first | exact Or.inl rfl | exact Or.inr rfl) (o_call G15 (Nat.le_succ _) rfl T.m15 T.f15.kp T.b15 (c_val (e_name (pv 0)) (c_val (e_name (pv 2)) (c_val (e_name (pv 4)) (c_val (e_name (pv 5)) c_nil))))))))))))
  (b_one (s_ret (o_val (e_tup (a_cons (e_name (pv 7)) (a_cons (e_ix (e_name (pv 1)) e_int (fun _ _ => rfl)) (a_cons (e_ix (e_name (pv 1)) e_int (fun _ _ => rfl)) a_nil)))))))))))
theorem ok17 (T : Txt K mg fa fd ta w.params cl) (n : Nat) (G9 : Ok P w K mg base fa fd cl n 9 P9) (G10 : Ok P w K mg base fa fd cl n 10 P10) : Ok P w K mg base fa fd cl (n + 1) 17 P17 := by
  refine def_ok (k := 2 * n + 1) (N := N17) (body := b17 (call n)) T.f17 sc17 fun cd A outer s H E lk hr => ?_
  let C := cfOf (P := P) (w := w) (K := K) (mg := mg) (base := base) cl (2 * n + 1) N17 P17 "split" (defScope s17) (fa 17) cd A outer s H E sc17 hr
  show DB C lk (defBody s17) (b17 (call n))
  delta b17
  exact (b_cons (s_set (i := 2) rfl (by first | exact Or.inl rfl | exact Or.inr rfl) (o_lst a_nil))
  (b_cons (s_set (i := 3) rfl (by first | exact Or.inl rfl | exact Or.inr rfl) (o_val e_int))
  (b_cons (s_for (i_seq (e_frz (o_call G9 (Nat.le_succ _) rfl T.m9 T.f9.kp T.b9 (c_val (e_name (pv 0)) c_nil)))) (g_name (i := 4) rfl (by first | exact Or.inl rfl | exact Or.inr rfl)) (b_cons (s_set (i := 5) rfl (by first | exact Or.inl rfl | exact Or.inr rfl) (o_call G10 (Nat.le_succ _) rfl T.m10 T.f10.kp T.b10 (c_val (e_name (pv 4)) c_nil)))
  (b_cons (s_expr (e_append (pv 2) (e_sl (e_name (pv 1)) (p_some (e_name (pv 3))) (p_some (e_bin d_add (e_name (pv 3)) (e_name (pv 5)))))))
  (b_one (s_aug (i := 3) rfl (by first | exact Or.inl rfl | exact Or.inr rfl) (e_name (pv 5)))))))
  (b_one (s_ret (o_val (e_name (pv 2))))))))
theorem ok18 (T : Txt K mg fa fd ta w.params cl) (n : Nat) (G11 : Ok P w K mg base fa fd cl n 11 P11) (G19 : Ok P w K mg base fa fd cl n 19 P19) : Ok P w K mg base fa fd cl (n + 1) 18 P18 := by
  refine def_ok (k := 2 * n + 1) (N := N18) (body := b18 (call n)) T.f18 sc18 fun cd A outer s H E lk hr => ?_
  let C := cfOf (P := P) (w := w) (K := K) (mg := mg) (base := base) cl (2 * n + 1) N18 P18 "hear_split" (defScope s18) (fa 18) cd A outer s H E sc18 hr
  show DB C lk (defBody s18) (b18 (call n))
  delta b18
  exact (b_cons (s_set (i := 4) rfl (by first | exact Or.inl rfl | exact Or.inr rfl) (o_call G19 (Nat.le_succ _) rfl T.m19 T.f19.kp T.b19 (c_val (e_ix (e_name (pv 0)) e_int (fun _ _ => rfl)) (c_val (e_ix (e_name (pv 1)) e_int (fun _ _ => rfl)) (c_val (e_name (pv 2)) (c_val (e_name (pv 3)) c_nil))))))
  (b_cons (s_set (i := 5) rfl (by first | exact Or.inl rfl | exact Or.inr rfl) (o_val (e_ix (e_name (pv 1)) e_int (fun _ _ => rfl))))
  (b_cons (s_if (t_bool (w_and (t_cmp (d_eq C.hu64) (e_ix (e_name (pv 0)) e_int (fun _ _ => rfl)) e_str (nomark _)) (w_and1 (t_notN (e_ix (e_ix (e_name (pv 4)) e_int (fun _ _ => rfl)) e_int (fun _ _ => rfl)))))) (b_one (s_set (i := 5) rfl (by first | exact Or.inl rfl | exact Or.inr rfl) (o_call G11 (Nat.le_succ _) rfl T.m11 T.f11.kp T.b11 (c_val (e_ix (e_name (pv 0)) e_int (fun _ _ => rfl)) c_nil)))) (b_one (s_if (t_bool (w_or (t_cmp (d_eq C.hu64) (e_ix (e_name (pv 0)) e_int (fun _ _ => rfl)) e_str (nomark _)) (w_or1 (t_notN (e_ix (e_ix (e_name (pv 4)) e_int (fun _ _ => rfl)) e_int (fun _ _ => rfl)))))) (b_one (s_set (i := 5) rfl (by first | exact Or.inl rfl | exact Or.inr rfl) (o_call G19 (Nat.le_succ _) rfl T.m19 T.f19.kp T.b19 (c_val (e_ix (e_name (pv 0)) e_int (fun _ _ => rfl)) (c_val (e_ix (e_name (pv 1)) e_int (fun _ _ => rfl)) (c_val (e_name (pv 2)) (c_val (e_name (pv 3)) c_nil))))))) b_nil)))
  (b_one (s_ret (o_lst (a_cons (e_name (pv 4)) (a_cons (e_name (pv 5)) a_nil))))))))
theorem ok19 (T : Txt K mg fa fd ta w.params cl) (n : Nat) (G18 : Ok P w K mg base fa fd cl n 18 P18) (G16 : Ok P w K mg base fa fd cl n 16 P16) (G9 : Ok P w K mg base fa fd cl n 9 P9) (G19 : Ok P w K mg base fa fd cl n 19 P19) (G17 : Ok P w K mg base fa fd cl n 17 P17) : Ok P w K mg base fa fd cl (n + 1) 19 P19 := by
  refine def_ok (k := 2 * n + 1) (N := N19) (body := b19 (call n)) T.f19 sc19 fun cd A outer s H E lk hr => ?_
  let C := cfOf (P := P) (w := w) (K := K) (mg := mg) (base := base) cl (2 * n + 1) N19 P19 "hear_cells" (defScope s19) (fa 19) cd A outer s H E sc19 hr
  show DB C lk (defBody s19) (b19 (call n))
  delta b19
  exact (b_cons (s_set (i := 4) rfl (by first | exact Or.inl rfl | exact Or.inr rfl) (o_call G17 (Nat.le_succ _) rfl T.m17 T.f17.kp T.b17 (c_val (e_name (pv 0)) (c_val (e_name (pv 1)) c_nil))))
  (b_cons (s_if (t_cmp (d_in C.hu65) (e_ix (e_name (pv 0)) e_int (fun _ _ => rfl)) (e_tup (a_cons e_str (a_cons e_str a_nil))) (by with_unfolding_all rfl)) (b_cons (s_set (i := 5) rfl (by first | exact Or.inl rfl | exact Or.inr rfl) (o_call G18 (Nat.le_succ _) rfl T.m18 T.f18.kp T.b18 (c_val (e_name (pv 0)) (c_val (e_name (pv 4)) (c_val (e_name (pv 2)) (c_val (e_name (pv 3)) c_nil))))))
  (b_one (s_set (i := 6) rfl (by first | exact Or.inl rfl | exact Or.inr rfl) (o_val (e_tup (a_cons (e_ix (e_ix (e_ix (e_name (pv 5)) e_int (fun _ _ => rfl)) e_int (fun _ _ => rfl)) e_int (fun _ _ => rfl)) (a_cons (e_ix (e_ix (e_name (pv 1)) e_int (fun _ _ => rfl)) e_int (fun _ _ => rfl)) (a_cons (e_ix (e_ix (e_name (pv 1)) e_int (fun _ _ => rfl)) e_int (fun _ _ => rfl)) a_nil)))))))) (b_cons (s_setLc (i := 5) (own := [("child", 10), ("piece", 8)]) rfl rfl (sw_true rfl rfl rfl (by decide +kernel)) { ok := blkOk_by (show blkC N19 (defScope s19) _ [("child", 10), ("piece", 8)] = true by decide +kernel), tg := fun _ _ _ _ _ _ => (g_tup (gs_cons (g_name (i := 10) rfl (by first | exact Or.inl rfl | exact Or.inr rfl)) (gs_cons (g_name (i := 8) rfl (by first | exact Or.inl rfl | exact Or.inr rfl)) gs_nil))), tt := fun _ _ _ _ _ => tt_nil, el := fun _ _ _ _ _ => (e_frz (o_call G19 (Nat.le_succ _) rfl T.m19 T.f19.kp T.b19 (c_val (e_name (pv 10)) (c_val (e_name (pv 8)) (c_val (e_name (pv 2)) (c_val (e_name (pv 3)) c_nil)))))) } (i_zip rfl T.n_zip (a_cons (e_frz (o_call G9 (Nat.le_succ _) rfl T.m9 T.f9.kp T.b9 (c_val (e_name (pv 0)) c_nil))) (a_cons (e_name (pv 4)) a_nil))))
  (b_cons (s_setLc (i := 7) (own := [("piece", 8)]) rfl rfl (sw_true rfl rfl rfl (by decide +kernel)) { ok := blkOk_by (show blkC N19 (defScope s19) _ [("piece", 8)] = true by decide +kernel), tg := fun _ _ _ _ _ _ => (g_name (i := 8) rfl (by first | exact Or.inl rfl | exact Or.inr rfl)), tt := fun _ _ _ _ _ => tt_nil, el := fun _ _ _ _ _ => (e_ix (e_ix (e_name (pv 8)) e_int (fun _ _ => rfl)) e_int (fun _ _ => rfl)) } (i_seq (e_name (pv 5))))
  (b_one (s_set (i := 6) rfl (by first | exact Or.inl rfl | exact Or.inr rfl) (o_call G16 (Nat.le_succ _) rfl T.m16 T.f16.kp T.b16 (c_val (e_name (pv 0)) (c_val (e_ix (e_name (pv 1)) e_int (fun _ _ => rfl)) (c_val (e_name (pv 7)) (c_val (e_frz (o_lc (own := [("piece", 8)]) { ok := blkOk_by (show blkC N19 (defScope s19) _ [("piece", 8)] = true by decide +kernel), tg := fun _ _ _ _ _ _ => (g_name (i := 8) rfl (by first | exact Or.inl rfl | exact Or.inr rfl)), tt := fun _ _ _ _ _ => tt_nil, el := fun _ _ _ _ _ => (e_ix (e_ix (e_name (pv 8)) e_int (fun _ _ => rfl)) e_int (fun _ _ => rfl)) } (i_seq (e_name (pv 4))))) (c_val (e_name (pv 2)) (c_val (e_name (pv 3)) c_nil))))))))))))
  (b_one (s_ret (o_val (e_bin d_add (e_frz (o_lst (a_cons (e_name (pv 6)) a_nil))) (e_frz (o_lc2 (own := [("piece", 8), ("cell", 9)]) (vs1 := [9]) { ok := blkOk_by (show blkC N19 (defScope s19) _ [("piece", 8), ("cell", 9)] = true by decide +kernel), sub := by decide, tg := fun _ _ _ _ _ _ => (g_name (i := 8) rfl (by first | exact Or.inl rfl | exact Or.inr rfl)), it := fun _ _ _ _ _ => (i_seq (e_name (pv 8))), tg1 := fun _ _ _ _ _ _ => (g_name (i := 9) rfl (by first | exact Or.inl rfl | exact Or.inr rfl)), el := fun _ _ _ _ _ => (e_name (pv 9)) } (i_seq (e_name (pv 5)))))))))))
theorem ok20 (T : Txt K mg fa fd ta w.params cl) (n : Nat)  : Ok P w K mg base fa fd cl (n + 1) 20 P20 := by
  refine def_ok (k := 2 * n + 1) (N := N20) (body := b20 (call n)) T.f20 sc20 fun cd A outer s H E lk hr => ?_
  let C := cfOf (P := P) (w := w) (K := K) (mg := mg) (base := base) cl (2 * n + 1) N20 P20 "_law_tape" (defScope s20) (fa 20) cd A outer s H E sc20 hr
  show DB C lk (defBody s20) (b20 (call n))
  delta b20
  exact (b_cons (s_set (i := 1) rfl (by first | exact Or.inl rfl | exact Or.inr rfl) (o_lst a_nil))
  (b_cons (s_for (i_seq (e_name (pv 0))) (g_name (i := 2) rfl (by first | exact Or.inl rfl | exact Or.inr rfl)) (b_cons (s_set (i := 3) rfl (by first | exact Or.inl rfl | exact Or.inr rfl) (o_val (e_bin d_mul e_int (e_callTy d_intf rfl T.n_int (by decide +kernel) (a_cons (e_name (pv 2)) a_nil)))))
  (b_cons (s_if (t_cmp d_lt (e_name (pv 3)) e_int (nomark _)) (b_one (s_set (i := 3) rfl (by first | exact Or.inl rfl | exact Or.inr rfl) (o_val (e_bin d_sub (e_un d_neg e_int) (e_name (pv 3)))))) b_nil)
  (b_one (s_if (t_cmp d_ge (e_name (pv 3)) (e_bin d_pow e_int e_int) (nomark _)) (b_one (s_for (i_range1 rfl T.n_range (a_cons e_int a_nil)) (g_name (i := 4) rfl (by first | exact Or.inl rfl | exact Or.inr rfl)) (b_one (s_if (t_cmp d_gt (e_name (pv 3)) e_int (nomark _)) (b_cons (s_expr (e_append (pv 1) (e_bin d_mod (e_callTy d_intf rfl T.n_int (by decide +kernel) (a_cons (e_name (pv 3)) a_nil)) e_int)))
  (b_one (s_set (i := 3) rfl (by first | exact Or.inl rfl | exact Or.inr rfl) (o_val (e_bin d_div (e_name (pv 3)) e_int))))) b_nil)))) (b_one (s_for (i_range1 rfl T.n_range (a_cons e_int a_nil)) (g_name (i := 4) rfl (by first | exact Or.inl rfl | exact Or.inr rfl)) (b_cons (s_set (i := 5) rfl (by first | exact Or.inl rfl | exact Or.inr rfl) (o_val (e_bin d_mod (e_callTy d_intf rfl T.n_int (by decide +kernel) (a_cons (e_bin d_add (e_bin d_add (e_bin d_mul (e_name (pv 3)) e_int) (e_bin d_mul (e_name (pv 4)) e_int)) e_int) a_nil)) e_int)))
  (b_one (s_expr (e_append (pv 1) (e_bin d_mod (e_callTy d_intf rfl T.n_int (by decide +kernel) (a_cons (e_bin d_add (e_bin d_mul (e_name (pv 5)) e_int) (e_bin d_div (e_name (pv 5)) e_int)) a_nil)) e_int))))))))))))
  (b_one (s_ret (o_val (e_name (pv 1)))))))
theorem ok21 (T : Txt K mg fa fd ta w.params cl) (n : Nat)  : Ok P w K mg base fa fd cl (n + 1) 21 P21 := by
  refine def_ok (k := 2 * n + 1) (N := N21) (body := b21 (call n)) T.f21 sc21 fun cd A outer s H E lk hr => ?_
  let C := cfOf (P := P) (w := w) (K := K) (mg := mg) (base := base) cl (2 * n + 1) N21 P21 "_law_draw" (defScope s21) (fa 21) cd A outer s H E sc21 hr
  show DB C lk (defBody s21) (b21 (call n))
  delta b21
  exact (b_cons (s_if (t_cmp d_lt (e_name (pv 1)) (e_callB d_len rfl T.n_len (by decide +kernel) (a_cons (e_name (pv 0)) a_nil)) (nomark _)) (b_one (s_ret (o_val (e_bin d_mod (e_callTy d_intf rfl T.n_int (by decide +kernel) (a_cons (e_ix (e_name (pv 0)) (e_name (pv 1)) (fun _ _ => rfl)) a_nil)) (e_name (pv 2)))))) b_nil)
  (b_cons (s_set (i := 3) rfl (by first | exact Or.inl rfl | exact Or.inr rfl) (o_val e_int))
  (b_cons (s_if (t_cmp d_gt (e_callB d_len rfl T.n_len (by decide +kernel) (a_cons (e_name (pv 0)) a_nil)) e_int (nomark _)) (b_one (s_set (i := 3) rfl (by first | exact Or.inl rfl | exact Or.inr rfl) (o_val (e_ix (e_name (pv 0)) (e_bin d_mod (e_callTy d_intf rfl T.n_int (by decide +kernel) (a_cons (e_name (pv 1)) a_nil)) (e_callB d_len rfl T.n_len (by decide +kernel) (a_cons (e_name (pv 0)) a_nil))) (fun _ _ => rfl))))) b_nil)
  (b_one (s_ret (o_val (e_bin d_mod (e_bin d_mod (e_callTy d_intf rfl T.n_int (by decide +kernel) (a_cons (e_bin d_add (e_bin d_mul (e_bin d_mul (e_bin d_add (e_name (pv 3)) (e_name (pv 1))) (e_bin d_add (e_name (pv 1)) e_int)) e_int) (e_bin d_mul (e_name (pv 1)) e_int)) a_nil)) e_int) (e_name (pv 2)))))))))
theorem ok22 (T : Txt K mg fa fd ta w.params cl) (n : Nat) (G22 : Ok P w K mg base fa fd cl n 22 P22) : Ok P w K mg base fa fd cl (n + 1) 22 P22 := by
  refine def_ok (k := 2 * n + 1) (N := N22) (body := b22 (call n)) T.f22 sc22 fun cd A outer s H E lk hr => ?_
  let C := cfOf (P := P) (w := w) (K := K) (mg := mg) (base := base) cl (2 * n + 1) N22 P22 "_law_equal" (defScope s22) (fa 22) cd A outer s H E sc22 hr
  show DB C lk (defBody s22) (b22 (call n))
  delta b22
  exact (b_cons (s_if (t_isN (e_name (pv 1))) (b_one (s_ret (o_val (e_isN (e_name (pv 0)))))) b_nil)
  (b_cons (s_if (t_tru (e_isi .bool rfl rfl T.n_isinstance boot_isi (e_name (pv 1)) rfl T.n_bool (by decide +kernel)) (fun _ => rfl)) (b_one (s_ret (o_val (e_and (e_isi .bool rfl rfl T.n_isinstance boot_isi (e_name (pv 0)) rfl T.n_bool (by decide +kernel)) (e_one (e_cmp (d_eq C.hu64) (e_name (pv 0)) (e_name (pv 1)) (nomark _))))))) b_nil)
  (b_cons (s_if (t_tru (e_isi .int rfl rfl T.n_isinstance boot_isi (e_name (pv 1)) rfl T.n_int (by decide +kernel)) (fun _ => rfl)) (b_one (s_ret (o_val (e_and (e_isi .int rfl rfl T.n_isinstance boot_isi (e_name (pv 0)) rfl T.n_int (by decide +kernel)) (e_and (e_not (e_isi .bool rfl rfl T.n_isinstance boot_isi (e_name (pv 0)) rfl T.n_bool (by decide +kernel))) (e_one (e_cmp (d_eq C.hu64) (e_name (pv 0)) (e_name (pv 1)) (nomark _)))))))) b_nil)
  (b_cons (s_if (t_tru (e_isi .str rfl rfl T.n_isinstance boot_isi (e_name (pv 1)) rfl T.n_str (by decide +kernel)) (fun _ => rfl)) (b_one (s_ret (o_val (e_and (e_isi .str rfl rfl T.n_isinstance boot_isi (e_name (pv 0)) rfl T.n_str (by decide +kernel)) (e_one (e_cmp (d_eq C.hu64) (e_name (pv 0)) (e_name (pv 1)) (nomark _))))))) b_nil)
  (b_cons (s_if (t_bool (w_and (t_tru (e_isi .tuple rfl rfl T.n_isinstance boot_isi (e_name (pv 1)) rfl T.n_tuple (by decide +kernel)) (fun _ => rfl)) (w_and1 (t_not (t_tru (e_isi .tuple rfl rfl T.n_isinstance boot_isi (e_name (pv 0)) rfl T.n_tuple (by decide +kernel)) (fun _ => rfl)))))) (b_one (s_ret (o_val e_bl))) b_nil)
  (b_cons (s_if (t_bool (w_and (t_tru (e_isi .list rfl rfl T.n_isinstance boot_isi (e_name (pv 1)) rfl T.n_list (by decide +kernel)) (fun _ => rfl)) (w_and1 (t_not (t_tru (e_isi .list rfl rfl T.n_isinstance boot_isi (e_name (pv 0)) rfl T.n_list (by decide +kernel)) (fun _ => rfl)))))) (b_one (s_ret (o_val e_bl))) b_nil)
  (b_cons (s_if (t_cmp (d_ne C.hu64) (e_callB d_len rfl T.n_len (by decide +kernel) (a_cons (e_name (pv 0)) a_nil)) (e_callB d_len rfl T.n_len (by decide +kernel) (a_cons (e_name (pv 1)) a_nil)) (nomark _)) (b_one (s_ret (o_val e_bl))) b_nil)
  (b_cons (s_for (i_range1 rfl T.n_range (a_cons (e_callB d_len rfl T.n_len (by decide +kernel) (a_cons (e_name (pv 1)) a_nil)) a_nil)) (g_name (i := 2) rfl (by first | exact Or.inl rfl | exact Or.inr rfl)) (b_one (s_if (t_not (t_tru (e_frz (o_call G22 (Nat.le_succ _) rfl T.m22 T.f22.kp T.b22 (c_val (e_ix (e_name (pv 0)) (e_name (pv 2)) (fun _ _ => rfl)) (c_val (e_ix (e_name (pv 1)) (e_name (pv 2)) (fun _ _ => rfl)) c_nil)))) (fun _ => rfl))) (b_one (s_ret (o_val e_bl))) b_nil)))
  (b_one (s_ret (o_val e_bl)))))))))))
theorem ok23 (T : Txt K mg fa fd ta w.params cl) (n : Nat) (G21 : Ok P w K mg base fa fd cl n 21 P21) : Ok P w K mg base fa fd cl (n + 1) 23 P23 := by
  refine def_ok (k := 2 * n + 1) (N := N23) (body := b23 (call n)) T.f23 sc23 fun cd A outer s H E lk hr => ?_
  let C := cfOf (P := P) (w := w) (K := K) (mg := mg) (base := base) cl (2 * n + 1) N23 P23 "_law_take" (defScope s23) (fa 23) cd A outer s H E sc23 hr
  show DB C lk (defBody s23) (b23 (call n))
  delta b23
  exact (b_cons (s_seti (pv 0) e_int (e_bin d_add (e_ixv (pv 0) e_int (fun _ _ => rfl)) e_int))
  (b_one (s_ret (o_call G21 (Nat.le_succ _) rfl T.m21 T.f21.kp T.b21 (c_val (e_ixv (pv 0) e_int (fun _ _ => rfl)) (c_val (e_ixv (pv 0) e_int (fun _ _ => rfl)) (c_val (e_name (pv 1)) c_nil)))))))
theorem ok24 (T : Txt K mg fa fd ta w.params cl) (n : Nat)  : Ok P w K mg base fa fd cl (n + 1) 24 P24 := by
  refine def_ok (k := 2 * n + 1) (N := N24) (body := b24 (call n)) T.f24 sc24 fun cd A outer s H E lk hr => ?_
  let C := cfOf (P := P) (w := w) (K := K) (mg := mg) (base := base) cl (2 * n + 1) N24 P24 "_law_common" (defScope s24) (fa 24) cd A outer s H E sc24 hr
  show DB C lk (defBody s24) (b24 (call n))
  delta b24
  exact (b_cons (s_for (i_range1 rfl T.n_range (a_cons (e_bin d_add (e_bin d_mul e_int (e_bits (e_name (pv 1)))) e_int) a_nil)) (g_name (i := 2) rfl (by first | exact Or.inl rfl | exact Or.inr rfl)) (b_cons (s_if (t_cmp (d_eq C.hu64) (e_name (pv 1)) e_int (nomark _)) (b_one s_break) b_nil)
  (b_cons (s_set (i := 3) rfl (by first | exact Or.inl rfl | exact Or.inr rfl) (o_val (e_bin d_mod (e_callTy d_intf rfl T.n_int (by decide +kernel) (a_cons (e_name (pv 0)) a_nil)) (e_name (pv 1)))))
  (b_cons (s_set (i := 0) rfl (by first | exact Or.inl rfl | exact Or.inr rfl) (o_val (e_name (pv 1))))
  (b_one (s_set (i := 1) rfl (by first | exact Or.inl rfl | exact Or.inr rfl) (o_val (e_name (pv 3)))))))))
  (b_one (s_ret (o_val (e_name (pv 0))))))
theorem ok25 (T : Txt K mg fa fd ta w.params cl) (n : Nat) (G24 : Ok P w K mg base fa fd cl n 24 P24) : Ok P w K mg base fa fd cl (n + 1) 25 P25 := by
  refine def_ok (k := 2 * n + 1) (N := N25) (body := b25 (call n)) T.f25 sc25 fun cd A outer s H E lk hr => ?_
  let C := cfOf (P := P) (w := w) (K := K) (mg := mg) (base := base) cl (2 * n + 1) N25 P25 "_law_pair" (defScope s25) (fa 25) cd A outer s H E sc25 hr
  show DB C lk (defBody s25) (b25 (call n))
  delta b25
  exact (b_cons (s_set (i := 2) rfl (by first | exact Or.inl rfl | exact Or.inr rfl) (o_call G24 (Nat.le_succ _) rfl T.m24 T.f24.kp T.b24 (c_val (e_callB d_abs rfl T.n_abs (by decide +kernel) (a_cons (e_name (pv 0)) a_nil)) (c_val (e_name (pv 1)) c_nil))))
  (b_one (s_ret (o_val (e_tup (a_cons (e_bin d_div (e_name (pv 0)) (e_name (pv 2))) (a_cons (e_bin d_div (e_name (pv 1)) (e_name (pv 2))) a_nil)))))))
theorem ok26 (T : Txt K mg fa fd ta w.params cl) (n : Nat) (G25 : Ok P w K mg base fa fd cl n 25 P25) (G23 : Ok P w K mg base fa fd cl n 23 P23) : Ok P w K mg base fa fd cl (n + 1) 26 P26 := by
  refine def_ok (k := 2 * n + 1) (N := N26) (body := b26 (call n)) T.f26 sc26 fun cd A outer s H E lk hr => ?_
  let C := cfOf (P := P) (w := w) (K := K) (mg := mg) (base := base) cl (2 * n + 1) N26 P26 "_law_number" (defScope s26) (fa 26) cd A outer s H E sc26 hr
  show DB C lk (defBody s26) (b26 (call n))
  delta b26
  exact (b_cons (s_if (t_cmp (d_eq C.hu64) (e_frz (o_call G23 (Nat.le_succ _) rfl T.m23 T.f23.kp T.b23 (c_lend (pv 0) (c_val e_int c_nil)))) e_int (nomark _)) (b_one (s_ret (o_call G25 (Nat.le_succ _) rfl T.m25 T.f25.kp T.b25 (c_val (e_bin d_sub (e_bin d_pow (e_frz (o_call G23 (Nat.le_succ _) rfl T.m23 T.f23.kp T.b23 (c_lend (pv 0) (c_val e_int c_nil)))) e_int) (e_bin d_pow (e_frz (o_call G23 (Nat.le_succ _) rfl T.m23 T.f23.kp T.b23 (c_lend (pv 0) (c_val e_int c_nil)))) e_int)) (c_val (e_bin d_add e_int (e_bin d_pow (e_frz (o_call G23 (Nat.le_succ _) rfl T.m23 T.f23.kp T.b23 (c_lend (pv 0) (c_val e_int c_nil)))) e_int)) c_nil))))) b_nil)
  (b_one (s_ret (o_call G25 (Nat.le_succ _) rfl T.m25 T.f25.kp T.b25 (c_val (e_bin d_sub (e_frz (o_call G23 (Nat.le_succ _) rfl T.m23 T.f23.kp T.b23 (c_lend (pv 0) (c_val e_int c_nil)))) e_int) (c_val (e_bin d_add e_int (e_frz (o_call G23 (Nat.le_succ _) rfl T.m23 T.f23.kp T.b23 (c_lend (pv 0) (c_val e_int c_nil))))) c_nil))))))
theorem ok27 (T : Txt K mg fa fd ta w.params cl) (n : Nat)  : Ok P w K mg base fa fd cl (n + 1) 27 P27 := by
  refine def_ok (k := 2 * n + 1) (N := N27) (body := b27 (call n)) T.f27 sc27 fun cd A outer s H E lk hr => ?_
  let C := cfOf (P := P) (w := w) (K := K) (mg := mg) (base := base) cl (2 * n + 1) N27 P27 "_law_less" (defScope s27) (fa 27) cd A outer s H E sc27 hr
  show DB C lk (defBody s27) (b27 (call n))
  delta b27
  exact (b_one (s_ret (o_val (e_cmp d_lt (e_bin d_mul (e_ix (e_name (pv 0)) e_int (fun _ _ => rfl)) (e_ix (e_name (pv 1)) e_int (fun _ _ => rfl))) (e_bin d_mul (e_ix (e_name (pv 1)) e_int (fun _ _ => rfl)) (e_ix (e_name (pv 0)) e_int (fun _ _ => rfl))) (nomark _)))))
theorem ok28 (T : Txt K mg fa fd ta w.params cl) (n : Nat) (G27 : Ok P w K mg base fa fd cl n 27 P27) : Ok P w K mg base fa fd cl (n + 1) 28 P28 := by
  refine def_ok (k := 2 * n + 1) (N := N28) (body := b28 (call n)) T.f28 sc28 fun cd A outer s H E lk hr => ?_
  let C := cfOf (P := P) (w := w) (K := K) (mg := mg) (base := base) cl (2 * n + 1) N28 P28 "_law_with" (defScope s28) (fa 28) cd A outer s H E sc28 hr
  show DB C lk (defBody s28) (b28 (call n))
  delta b28
  exact (b_cons (s_setLc (i := 2) (own := [("_law_one", 4)]) rfl rfl (sw_true rfl rfl rfl (by decide +kernel)) { ok := blkOk_by (show blkC N28 (defScope s28) _ [("_law_one", 4)] = true by decide +kernel), tg := fun _ _ _ _ _ _ => (g_name (i := 4) rfl (by first | exact Or.inl rfl | exact Or.inr rfl)), tt := fun _ _ _ _ _ => (tt_one (t_tru (e_frz (o_call G27 (Nat.le_succ _) rfl T.m27 T.f27.kp T.b27 (c_val (e_name (pv 4)) (c_val (e_name (pv 1)) c_nil)))) (fun _ => rfl))), el := fun _ _ _ _ _ => (e_name (pv 4)) } (i_seq (e_name (pv 0))))
  (b_cons (s_setLc (i := 3) (own := [("_law_one", 4)]) rfl rfl (sw_true rfl rfl rfl (by decide +kernel)) { ok := blkOk_by (show blkC N28 (defScope s28) _ [("_law_one", 4)] = true by decide +kernel), tg := fun _ _ _ _ _ _ => (g_name (i := 4) rfl (by first | exact Or.inl rfl | exact Or.inr rfl)), tt := fun _ _ _ _ _ => (tt_one (t_tru (e_frz (o_call G27 (Nat.le_succ _) rfl T.m27 T.f27.kp T.b27 (c_val (e_name (pv 1)) (c_val (e_name (pv 4)) c_nil)))) (fun _ => rfl))), el := fun _ _ _ _ _ => (e_name (pv 4)) } (i_seq (e_name (pv 0))))
  (b_one (s_ret (o_nice (n_tuple rfl T.n_tuple (by decide +kernel) (a_cons (e_bin d_add (e_bin d_add (e_name (pv 2)) (e_frz (o_lst (a_cons (e_name (pv 1)) a_nil)))) (e_name (pv 3))) a_nil)))))))
theorem ok29 (T : Txt K mg fa fd ta w.params cl) (n : Nat) (G23 : Ok P w K mg base fa fd cl n 23 P23) : Ok P w K mg base fa fd cl (n + 1) 29 P29 := by
  refine def_ok (k := 2 * n + 1) (N := N29) (body := b29 (call n)) T.f29 sc29 fun cd A outer s H E lk hr => ?_
  let C := cfOf (P := P) (w := w) (K := K) (mg := mg) (base := base) cl (2 * n + 1) N29 P29 "_law_names" (defScope s29) (fa 29) cd A outer s H E sc29 hr
  show DB C lk (defBody s29) (b29 (call n))
  delta b29
  exact (b_cons (s_set (i := 1) rfl (by first | exact Or.inl rfl | exact Or.inr rfl) (o_lst (a_cons e_str (a_cons e_str (a_cons e_str (a_cons e_str (a_cons e_str (a_cons e_str (a_cons e_str a_nil)))))))))
  (b_cons (s_set (i := 2) rfl (by first | exact Or.inl rfl | exact Or.inr rfl) (o_call G23 (Nat.le_succ _) rfl T.m23 T.f23.kp T.b23 (c_lend (pv 0) (c_val e_int c_nil))))
  (b_one (s_ret (o_val (e_callTy d_tuple rfl T.n_tuple (by decide +kernel) (a_cons (e_frz (o_lc (own := [("_law_k", 3)]) { ok := blkOk_by (show blkC N29 (defScope s29) _ [("_law_k", 3)] = true by decide +kernel), tg := fun _ _ _ _ _ _ => (g_name (i := 3) rfl (by first | exact Or.inl rfl | exact Or.inr rfl)), tt := fun _ _ _ _ _ => tt_nil, el := fun _ _ _ _ _ => (e_ix (e_name (pv 1)) (e_bin d_mod (e_callTy d_intf rfl T.n_int (by decide +kernel) (a_cons (e_bin d_add (e_name (pv 2)) (e_bin d_mul e_int (e_name (pv 3)))) a_nil)) e_int) (fun _ _ => rfl)) } (i_range1 rfl T.n_range (a_cons (e_bin d_add e_int (e_frz (o_call G23 (Nat.le_succ _) rfl T.m23 T.f23.kp T.b23 (c_lend (pv 0) (c_val e_int c_nil))))) a_nil)))) a_nil)))))))
theorem ok30 (T : Txt K mg fa fd ta w.params cl) (n : Nat) (G23 : Ok P w K mg base fa fd cl n 23 P23) : Ok P w K mg base fa fd cl (n + 1) 30 P30 := by
  refine def_ok (k := 2 * n + 1) (N := N30) (body := b30 (call n)) T.f30 sc30 fun cd A outer s H E lk hr => ?_
  let C := cfOf (P := P) (w := w) (K := K) (mg := mg) (base := base) cl (2 * n + 1) N30 P30 "_law_leaf" (defScope s30) (fa 30) cd A outer s H E sc30 hr
  show DB C lk (defBody s30) (b30 (call n))
  delta b30
  exact (b_cons (s_set (i := 2) rfl (by first | exact Or.inl rfl | exact Or.inr rfl) (o_call G23 (Nat.le_succ _) rfl T.m23 T.f23.kp T.b23 (c_lend (pv 0) (c_val e_int c_nil))))
  (b_cons (s_if (t_cmp d_lt (e_name (pv 2)) e_int (nomark _)) (b_one (s_ret (o_val (e_tup (a_cons e_str a_nil))))) b_nil)
  (b_cons (s_if (t_cmp (d_eq C.hu64) (e_name (pv 2)) e_int (nomark _)) (b_one (s_ret (o_val (e_tup (a_cons e_str a_nil))))) b_nil)
  (b_one (s_ret (o_val (e_tup (a_cons e_str (a_cons (e_ix (e_name (pv 1)) (e_frz (o_call G23 (Nat.le_succ _) rfl T.m23 T.f23.kp T.b23 (c_lend (pv 0) (c_val (e_callB d_len rfl T.n_len (by decide +kernel) (a_cons (e_name (pv 1)) a_nil)) c_nil)))) (fun _ _ => rfl)) a_nil)))))))))
theorem ok31 (T : Txt K mg fa fd ta w.params cl) (n : Nat) (G31 : Ok P w K mg base fa fd cl n 31 P31) (G23 : Ok P w K mg base fa fd cl n 23 P23) (G30 : Ok P w K mg base fa fd cl n 30 P30) : Ok P w K mg base fa fd cl (n + 1) 31 P31 := by
  refine def_ok (k := 2 * n + 1) (N := N31) (body := b31 (call n)) T.f31 sc31 fun cd A outer s H E lk hr => ?_
  let C := cfOf (P := P) (w := w) (K := K) (mg := mg) (base := base) cl (2 * n + 1) N31 P31 "_law_tree" (defScope s31) (fa 31) cd A outer s H E sc31 hr
  show DB C lk (defBody s31) (b31 (call n))
  delta b31
  exact (b_cons (s_set (i := 3) rfl (by first | exact Or.inl rfl | exact Or.inr rfl) (o_call G23 (Nat.le_succ _) rfl T.m23 T.f23.kp T.b23 (c_lend (pv 0) (c_val e_int c_nil))))
  (b_cons (s_if (t_bool (w_or (t_cmp d_lt (e_name (pv 2)) e_int (nomark _)) (w_or1 (t_cmp (d_eq C.hu64) (e_name (pv 3)) e_int (nomark _))))) (b_one (s_ret (o_call G30 (Nat.le_succ _) rfl T.m30 T.f30.kp T.b30 (c_lend (pv 0) (c_val (e_name (pv 1)) c_nil))))) b_nil)
  (b_cons (s_if (t_cmp d_lt (e_name (pv 3)) e_int (nomark _)) (b_one (s_ret (o_val (e_tup (a_cons (e_ix (e_frz (o_lst (a_cons e_str (a_cons e_str (a_cons e_str a_nil))))) (e_bin d_sub (e_name (pv 3)) e_int) (fun _ _ => rfl)) (a_cons (e_frz (o_call G31 (Nat.le_succ _) rfl T.m31 T.f31.kp T.b31 (c_lend (pv 0) (c_val (e_name (pv 1)) (c_val (e_bin d_sub (e_name (pv 2)) e_int) c_nil))))) a_nil)))))) b_nil)
  (b_cons (s_if (t_cmp d_lt (e_name (pv 3)) e_int (nomark _)) (b_cons (s_set (i := 6) rfl (by first | exact Or.inl rfl | exact Or.inr rfl) (o_val (e_ix (e_frz (o_lst (a_cons e_int (a_cons e_int (a_cons e_int a_nil))))) (e_bin d_sub (e_name (pv 3)) e_int) (fun _ _ => rfl))))
  (b_one (s_ret (o_val (e_tup (a_cons (e_ix (e_frz (o_lst (a_cons e_str (a_cons e_str (a_cons e_str a_nil))))) (e_bin d_sub (e_name (pv 3)) e_int) (fun _ _ => rfl)) (a_cons (e_bin d_add e_int (e_frz (o_call G23 (Nat.le_succ _) rfl T.m23 T.f23.kp T.b23 (c_lend (pv 0) (c_val (e_name (pv 6)) c_nil))))) (a_cons (e_frz (o_call G31 (Nat.le_succ _) rfl T.m31 T.f31.kp T.b31 (c_lend (pv 0) (c_val (e_name (pv 1)) (c_val (e_bin d_sub (e_name (pv 2)) e_int) c_nil))))) a_nil)))))))) b_nil)
  (b_cons (s_if (t_cmp (d_eq C.hu64) (e_name (pv 3)) e_int (nomark _)) (b_cons (s_set (i := 6) rfl (by first | exact Or.inl rfl | exact Or.inr rfl) (o_val (e_bin d_add e_int (e_frz (o_call G23 (Nat.le_succ _) rfl T.m23 T.f23.kp T.b23 (c_lend (pv 0) (c_val e_int c_nil)))))))
  (b_one (s_ret (o_val (e_tup (a_cons e_str (a_cons (e_name (pv 6)) (a_cons (e_frz (o_call G23 (Nat.le_succ _) rfl T.m23 T.f23.kp T.b23 (c_lend (pv 0) (c_val (e_name (pv 6)) c_nil)))) (a_cons (e_frz (o_call G31 (Nat.le_succ _) rfl T.m31 T.f31.kp T.b31 (c_lend (pv 0) (c_val (e_name (pv 1)) (c_val (e_bin d_sub (e_name (pv 2)) e_int) c_nil))))) a_nil))))))))) b_nil)
  (b_cons (s_if (t_bool (w_and (t_cmp d_lt (e_name (pv 3)) e_int (nomark _)) (w_and1 (t_cmp d_gt (e_name (pv 2)) e_int (nomark _))))) (b_cons (s_setLc (i := 7) (own := [("_law_k", 8)]) rfl rfl (sw_true rfl rfl rfl (by decide +kernel)) { ok := blkOk_by (show blkC N31 (defScope s31) _ [("_law_k", 8)] = true by decide +kernel), tg := fun _ _ _ _ _ _ => (g_name (i := 8) rfl (by first | exact Or.inl rfl | exact Or.inr rfl)), tt := fun _ _ _ _ _ => tt_nil, el := fun _ _ _ _ _ => (e_frz (o_call G31 (Nat.le_succ _) rfl T.m31 T.f31.kp T.b31 (c_lend (pv 0) (c_val (e_name (pv 1)) (c_val (e_bin d_div (e_bin d_sub (e_name (pv 2)) e_int) e_int) c_nil))))) } (i_range1 rfl T.n_range (a_cons e_int a_nil)))
  (b_one (s_ret (o_val (e_tup (a_cons e_str (a_cons (e_ix (e_name (pv 7)) e_int (fun _ _ => rfl)) (a_cons (e_ix (e_name (pv 7)) e_int (fun _ _ => rfl)) (a_cons (e_ix (e_name (pv 7)) e_int (fun _ _ => rfl)) a_nil))))))))) b_nil)
  (b_cons (s_if (t_cmp d_lt (e_name (pv 2)) e_int (nomark _)) (b_one (s_ret (o_val (e_tup (a_cons e_str (a_cons (e_frz (o_call G30 (Nat.le_succ _) rfl T.m30 T.f30.kp T.b30 (c_lend (pv 0) (c_val (e_name (pv 1)) c_nil)))) a_nil)))))) b_nil)
  (b_cons (s_set (i := 4) rfl (by first | exact Or.inl rfl | exact Or.inr rfl) (o_val (e_bin d_add e_int (e_frz (o_call G23 (Nat.le_succ _) rfl T.m23 T.f23.kp T.b23 (c_lend (pv 0) (c_val (e_bin d_sub (e_name (pv 2)) e_int) c_nil)))))))
  (b_cons (s_set (i := 5) rfl (by first | exact Or.inl rfl | exact Or.inr rfl) (o_val (e_ix (e_frz (o_lst (a_cons e_str (a_cons e_str (a_cons e_str (a_cons e_str (a_cons e_str (a_cons e_str (a_cons e_str (a_cons e_str a_nil)))))))))) (e_bin d_mod (e_callTy d_intf rfl T.n_int (by decide +kernel) (a_cons (e_name (pv 3)) a_nil)) e_int) (fun _ _ => rfl))))
  (b_one (s_ret (o_val (e_tup (a_cons (e_name (pv 5)) (a_cons (e_frz (o_call G31 (Nat.le_succ _) rfl T.m31 T.f31.kp T.b31 (c_lend (pv 0) (c_val (e_name (pv 1)) (c_val (e_name (pv 4)) c_nil))))) (a_cons (e_frz (o_call G31 (Nat.le_succ _) rfl T.m31 T.f31.kp T.b31 (c_lend (pv 0) (c_val (e_name (pv 1)) (c_val (e_bin d_sub (e_bin d_sub (e_name (pv 2)) e_int) (e_name (pv 4))) c_nil))))) a_nil))))))))))))))))
theorem ok32 (T : Txt K mg fa fd ta w.params cl) (n : Nat) (G23 : Ok P w K mg base fa fd cl n 23 P23) (G26 : Ok P w K mg base fa fd cl n 26 P26) : Ok P w K mg base fa fd cl (n + 1) 32 P32 := by
  refine def_ok (k := 2 * n + 1) (N := N32) (body := b32 (call n)) T.f32 sc32 fun cd A outer s H E lk hr => ?_
  let C := cfOf (P := P) (w := w) (K := K) (mg := mg) (base := base) cl (2 * n + 1) N32 P32 "_law_row" (defScope s32) (fa 32) cd A outer s H E sc32 hr
  show DB C lk (defBody s32) (b32 (call n))
  delta b32
  exact (b_cons (s_set (i := 3) rfl (by first | exact Or.inl rfl | exact Or.inr rfl) (o_lst a_nil))
  (b_cons (s_for (i_range1 rfl T.n_range (a_cons (e_frz (o_call G23 (Nat.le_succ _) rfl T.m23 T.f23.kp T.b23 (c_lend (pv 0) (c_val (e_bin d_add (e_name (pv 2)) e_int) c_nil)))) a_nil)) (g_name (i := 4) rfl (by first | exact Or.inl rfl | exact Or.inr rfl)) (b_cons (s_set (i := 5) rfl (by first | exact Or.inl rfl | exact Or.inr rfl) (o_call G26 (Nat.le_succ _) rfl T.m26 T.f26.kp T.b26 (c_lend (pv 0) c_nil)))
  (b_cons (s_if (t_bool (w_and (t_cmp d_gt (e_lenv (pv 3) rfl rfl T.n_len (by decide +kernel)) e_int (nomark _)) (w_and1 (t_cmp (d_eq C.hu64) (e_frz (o_call G23 (Nat.le_succ _) rfl T.m23 T.f23.kp T.b23 (c_lend (pv 0) (c_val e_int c_nil)))) e_int (nomark _))))) (b_one (s_set (i := 5) rfl (by first | exact Or.inl rfl | exact Or.inr rfl) (o_val (e_ix (e_ixv (pv 3) (e_frz (o_call G23 (Nat.le_succ _) rfl T.m23 T.f23.kp T.b23 (c_lend (pv 0) (c_val (e_lenv (pv 3) rfl rfl T.n_len (by decide +kernel)) c_nil)))) (fun _ _ => rfl)) e_int (fun _ _ => rfl))))) b_nil)
  (b_one (s_expr (e_append (pv 3) (e_tup (a_cons (e_ix (e_name (pv 1)) (e_frz (o_call G23 (Nat.le_succ _) rfl T.m23 T.f23.kp T.b23 (c_lend (pv 0) (c_val (e_callB d_len rfl T.n_len (by decide +kernel) (a_cons (e_name (pv 1)) a_nil)) c_nil)))) (fun _ _ => rfl)) (a_cons (e_name (pv 5)) a_nil)))))))))
  (b_one (s_ret (o_val (e_name (pv 3)))))))
theorem ok33 (T : Txt K mg fa fd ta w.params cl) (n : Nat) (G28 : Ok P w K mg base fa fd cl n 28 P28) (G26 : Ok P w K mg base fa fd cl n 26 P26) : Ok P w K mg base fa fd cl (n + 1) 33 P33 := by
  refine def_ok (k := 2 * n + 1) (N := N33) (body := b33 (call n)) T.f33 sc33 fun cd A outer s H E lk hr => ?_
  let C := cfOf (P := P) (w := w) (K := K) (mg := mg) (base := base) cl (2 * n + 1) N33 P33 "_law_others" (defScope s33) (fa 33) cd A outer s H E sc33 hr
  show DB C lk (defBody s33) (b33 (call n))
  delta b33
  exact (b_cons (s_set (i := 2) rfl (by first | exact Or.inl rfl | exact Or.inr rfl) (o_val (e_tup a_nil)))
  (b_cons (s_for (i_range1 rfl T.n_range (a_cons e_int a_nil)) (g_name (i := 3) rfl (by first | exact Or.inl rfl | exact Or.inr rfl)) (b_one (s_if (t_cmp d_lt (e_callB d_len rfl T.n_len (by decide +kernel) (a_cons (e_name (pv 2)) a_nil)) (e_callB d_len rfl T.n_len (by decide +kernel) (a_cons (e_name (pv 1)) a_nil)) (nomark _)) (b_one (s_set (i := 2) rfl (by first | exact Or.inl rfl | exact Or.inr rfl) (o_call G28 (Nat.le_succ _) rfl T.m28 T.f28.kp T.b28 (c_val (e_name (pv 2)) (c_val (e_frz (o_call G26 (Nat.le_succ _) rfl T.m26 T.f26.kp T.b26 (c_lend (pv 0) c_nil))) c_nil))))) b_nil)))
  (b_cons (s_set (i := 4) rfl (by first | exact Or.inl rfl | exact Or.inr rfl) (o_val e_int))
  (b_cons (s_for (i_seq (e_name (pv 2))) (g_name (i := 5) rfl (by first | exact Or.inl rfl | exact Or.inr rfl)) (b_one (s_set (i := 4) rfl (by first | exact Or.inl rfl | exact Or.inr rfl) (o_val (e_callB (d_max C.calm) rfl T.n_max (by decide +kernel) (a_cons (e_name (pv 4)) (a_cons (e_callB d_abs rfl T.n_abs (by decide +kernel) (a_cons (e_ix (e_name (pv 5)) e_int (fun _ _ => rfl)) a_nil)) a_nil)))))))
  (b_cons (s_for (i_range1 rfl T.n_range (a_cons (e_bin d_sub (e_callB d_len rfl T.n_len (by decide +kernel) (a_cons (e_name (pv 1)) a_nil)) (e_callB d_len rfl T.n_len (by decide +kernel) (a_cons (e_name (pv 2)) a_nil))) a_nil)) (g_name (i := 3) rfl (by first | exact Or.inl rfl | exact Or.inr rfl)) (b_one (s_set (i := 2) rfl (by first | exact Or.inl rfl | exact Or.inr rfl) (o_val (e_bin d_add (e_name (pv 2)) (e_tup (a_cons (e_tup (a_cons (e_bin d_add (e_bin d_add (e_name (pv 4)) e_int) (e_name (pv 3))) (a_cons e_int a_nil))) a_nil)))))))
  (b_one (s_ret (o_val (e_name (pv 2))))))))))
theorem ok34 (T : Txt K mg fa fd ta w.params cl) (n : Nat)  : Ok P w K mg base fa fd cl (n + 1) 34 P34 := by
  refine def_ok (k := 2 * n + 1) (N := N34) (body := b34 (call n)) T.f34 sc34 fun cd A outer s H E lk hr => ?_
  let C := cfOf (P := P) (w := w) (K := K) (mg := mg) (base := base) cl (2 * n + 1) N34 P34 "_law_replaced" (defScope s34) (fa 34) cd A outer s H E sc34 hr
  show DB C lk (defBody s34) (b34 (call n))
  delta b34
  exact (b_cons (s_if (t_isN (e_name (pv 0))) (b_one (s_ret (o_val e_non))) b_nil)
  (b_one (s_ret (o_val (e_ix (e_name (pv 2)) (e_tindex (n_name (pv 1)) (e_name (pv 0)) C.hu65) (fun _ _ => rfl))))))
theorem ok35 (T : Txt K mg fa fd ta w.params cl) (n : Nat) (G22 : Ok P w K mg base fa fd cl n 22 P22) (G34 : Ok P w K mg base fa fd cl n 34 P34) : Ok P w K mg base fa fd cl (n + 1) 35 P35 := by
  refine def_ok (k := 2 * n + 1) (N := N35) (body := b35 (call n)) T.f35 sc35 fun cd A outer s H E lk hr => ?_
  let C := cfOf (P := P) (w := w) (K := K) (mg := mg) (base := base) cl (2 * n + 1) N35 P35 "_law_alike" (defScope s35) (fa 35) cd A outer s H E sc35 hr
  show DB C lk (defBody s35) (b35 (call n))
  delta b35
  exact (b_cons (s_if (t_cmp (d_ne C.hu64) (e_callB d_len rfl T.n_len (by decide +kernel) (a_cons (e_name (pv 0)) a_nil)) (e_callB d_len rfl T.n_len (by decide +kernel) (a_cons (e_name (pv 1)) a_nil)) (nomark _)) (b_one (s_ret (o_val e_bl))) b_nil)
  (b_cons (s_for (i_range1 rfl T.n_range (a_cons (e_callB d_len rfl T.n_len (by decide +kernel) (a_cons (e_name (pv 0)) a_nil)) a_nil)) (g_name (i := 4) rfl (by first | exact Or.inl rfl | exact Or.inr rfl)) (b_cons (s_set (i := 5) rfl (by first | exact Or.inl rfl | exact Or.inr rfl) (o_val (e_callTy d_tuple rfl T.n_tuple (by decide +kernel) (a_cons (e_frz (o_lc (own := [("_law_one", 7)]) { ok := blkOk_by (show blkC N35 (defScope s35) _ [("_law_one", 7)] = true by decide +kernel), tg := fun _ _ _ _ _ _ => (g_name (i := 7) rfl (by first | exact Or.inl rfl | exact Or.inr rfl)), tt := fun _ _ _ _ _ => tt_nil, el := fun _ _ _ _ _ => (e_frz (o_call G34 (Nat.le_succ _) rfl T.m34 T.f34.kp T.b34 (c_val (e_name (pv 7)) (c_lend (pv 2) (c_val (e_name (pv 3)) c_nil))))) } (i_seq (e_ix (e_ix (e_name (pv 0)) (e_name (pv 4)) (fun _ _ => rfl)) e_int (fun _ _ => rfl))))) a_nil))))
  (b_cons (s_set (i := 6) rfl (by first | exact Or.inl rfl | exact Or.inr rfl) (o_val (e_tup (a_cons (e_frz (o_call G34 (Nat.le_succ _) rfl T.m34 T.f34.kp T.b34 (c_val (e_ix (e_ix (e_name (pv 0)) (e_name (pv 4)) (fun _ _ => rfl)) e_int (fun _ _ => rfl)) (c_lend (pv 2) (c_val (e_name (pv 3)) c_nil))))) (a_cons (e_ix (e_ix (e_name (pv 0)) (e_name (pv 4)) (fun _ _ => rfl)) e_int (fun _ _ => rfl)) (a_cons (e_name (pv 5)) a_nil))))))
  (b_one (s_if (t_not (t_tru (e_frz (o_call G22 (Nat.le_succ _) rfl T.m22 T.f22.kp T.b22 (c_val (e_ix (e_name (pv 1)) (e_name (pv 4)) (fun _ _ => rfl)) (c_val (e_name (pv 6)) c_nil)))) (fun _ => rfl))) (b_one (s_ret (o_val e_bl))) b_nil)))))
  (b_one (s_ret (o_val e_bl)))))
theorem ok36 (T : Txt K mg fa fd ta w.params cl) (n : Nat) (G35 : Ok P w K mg base fa fd cl n 35 P35) (G22 : Ok P w K mg base fa fd cl n 22 P22) (G8 : Ok P w K mg base fa fd cl n 8 P8) (G34 : Ok P w K mg base fa fd cl n 34 P34) (G19 : Ok P w K mg base fa fd cl n 19 P19) (G11 : Ok P w K mg base fa fd cl n 11 P11) (G33 : Ok P w K mg base fa fd cl n 33 P33) (G28 : Ok P w K mg base fa fd cl n 28 P28) (G32 : Ok P w K mg base fa fd cl n 32 P32) (G31 : Ok P w K mg base fa fd cl n 31 P31) (G23 : Ok P w K mg base fa fd cl n 23 P23) (G29 : Ok P w K mg base fa fd cl n 29 P29) (G20 : Ok P w K mg base fa fd cl n 20 P20) : Ok P w K mg base fa fd cl (n + 1) 36 P36 := by
  refine def_ok (k := 2 * n + 1) (N := N36) (body := b36 (call n)) T.f36 sc36 fun cd A outer s H E lk hr => ?_
  let C := cfOf (P := P) (w := w) (K := K) (mg := mg) (base := base) cl (2 * n + 1) N36 P36 "law" (defScope s36) (fa 36) cd A outer s H E sc36 hr
  show DB C lk (defBody s36) (b36 (call n))
  delta b36
  exact (b_cons (s_set (i := 1) rfl (by first | exact Or.inl rfl | exact Or.inr rfl) (o_lst (a_cons (e_frz (o_call G20 (Nat.le_succ _) rfl T.m20 T.f20.kp T.b20 (c_val (e_name (pv 0)) c_nil))) (a_cons e_int a_nil))))
  (b_cons (s_set (i := 2) rfl (by first | exact Or.inl rfl | exact Or.inr rfl) (o_call G29 (Nat.le_succ _) rfl T.m29 T.f29.kp T.b29 (c_lend (pv 1) c_nil)))
  (b_cons (s_set (i := 3) rfl (by first | exact Or.inl rfl | exact Or.inr rfl) (o_call G31 (Nat.le_succ _) rfl T.m31 T.f31.kp T.b31 (c_lend (pv 1) (c_val (e_name (pv 2)) (c_val (e_bin d_add e_int (e_frz (o_call G23 (Nat.le_succ _) rfl T.m23 T.f23.kp T.b23 (c_lend (pv 1) (c_val e_int c_nil))))) c_nil)))))
  (b_cons (s_set (i := 4) rfl (by first | exact Or.inl rfl | exact Or.inr rfl) (o_call G32 (Nat.le_succ _) rfl T.m32 T.f32.kp T.b32 (c_lend (pv 1) (c_val (e_name (pv 2)) (c_val e_int c_nil)))))
  (b_cons (s_set (i := 5) rfl (by first | exact Or.inl rfl | exact Or.inr rfl) (o_nice (n_tup a_nil)))
  (b_cons (s_for (i_seq (e_name (pv 4))) (g_tup (gs_cons (g_name (i := 11) rfl (by first | exact Or.inl rfl | exact Or.inr rfl)) (gs_cons (g_name (i := 12) rfl (by first | exact Or.inl rfl | exact Or.inr rfl)) gs_nil))) (b_one (s_set (i := 5) rfl (by first | exact Or.inl rfl | exact Or.inr rfl) (o_call G28 (Nat.le_succ _) rfl T.m28 T.f28.kp T.b28 (c_val (e_name (pv 5)) (c_val (e_name (pv 12)) c_nil))))))
  (b_cons (s_set (i := 6) rfl (by first | exact Or.inl rfl | exact Or.inr rfl) (o_call G33 (Nat.le_succ _) rfl T.m33 T.f33.kp T.b33 (c_lend (pv 1) (c_val (e_name (pv 5)) c_nil))))
  (b_cons (s_setLc (i := 7) (own := [("_law_name", 11), ("_law_number_here", 12)]) rfl rfl (sw_true rfl rfl rfl (by decide +kernel)) { ok := blkOk_by (show blkC N36 (defScope s36) _ [("_law_name", 11), ("_law_number_here", 12)] = true by decide +kernel), tg := fun _ _ _ _ _ _ => (g_tup (gs_cons (g_name (i := 11) rfl (by first | exact Or.inl rfl | exact Or.inr rfl)) (gs_cons (g_name (i := 12) rfl (by first | exact Or.inl rfl | exact Or.inr rfl)) gs_nil))), tt := fun _ _ _ _ _ => tt_nil, el := fun _ _ _ _ _ => (e_tup (a_cons (e_name (pv 11)) (a_cons (e_frz (o_call G34 (Nat.le_succ _) rfl T.m34 T.f34.kp T.b34 (c_val (e_name (pv 12)) (c_lend (pv 5) (c_val (e_name (pv 6)) c_nil))))) a_nil))) } (i_seq (e_name (pv 4))))
  (b_cons (s_set (i := 8) rfl (by first | exact Or.inl rfl | exact Or.inr rfl) (o_call G11 (Nat.le_succ _) rfl T.m11 T.f11.kp T.b11 (c_val (e_name (pv 3)) c_nil)))
  (b_cons (s_set (i := 9) rfl (by first | exact Or.inl rfl | exact Or.inr rfl) (o_call G11 (Nat.le_succ _) rfl T.m11 T.f11.kp T.b11 (c_val (e_name (pv 3)) c_nil)))
  (b_cons (s_for (i_range1 rfl T.n_range (a_cons (e_callB d_len rfl T.n_len (by decide +kernel) (a_cons (e_name (pv 4)) a_nil)) a_nil)) (g_name (i := 10) rfl (by first | exact Or.inl rfl | exact Or.inr rfl)) (b_cons (s_set (i := 8) rfl (by first | exact Or.inl rfl | exact Or.inr rfl) (o_call G19 (Nat.le_succ _) rfl T.m19 T.f19.kp T.b19 (c_val (e_name (pv 3)) (c_val (e_name (pv 8)) (c_val (e_ix (e_ix (e_name (pv 4)) (e_name (pv 10)) (fun _ _ => rfl)) e_int (fun _ _ => rfl)) (c_val (e_ix (e_ix (e_name (pv 4)) (e_name (pv 10)) (fun _ _ => rfl)) e_int (fun _ _ => rfl)) c_nil))))))
  (b_cons (s_set (i := 9) rfl (by first | exact Or.inl rfl | exact Or.inr rfl) (o_call G19 (Nat.le_succ _) rfl T.m19 T.f19.kp T.b19 (c_val (e_name (pv 3)) (c_val (e_name (pv 9)) (c_val (e_ix (e_ix (e_name (pv 7)) (e_name (pv 10)) (fun _ _ => rfl)) e_int (fun _ _ => rfl)) (c_val (e_ix (e_ix (e_name (pv 7)) (e_name (pv 10)) (fun _ _ => rfl)) e_int (fun _ _ => rfl)) c_nil))))))
  (b_cons (s_set (i := 13) rfl (by first | exact Or.inl rfl | exact Or.inr rfl) (o_call G34 (Nat.le_succ _) rfl T.m34 T.f34.kp T.b34 (c_val (e_frz (o_call G8 (Nat.le_succ _) rfl T.m8 T.f8.kp T.b8 (c_val (e_name (pv 3)) (c_val (e_sl (e_name (pv 4)) p_none (p_some (e_bin d_add (e_name (pv 10)) e_int))) c_nil)))) (c_lend (pv 5) (c_val (e_name (pv 6)) c_nil)))))
  (b_cons (s_if (t_bool (w_or (t_not (t_tru (e_frz (o_call G22 (Nat.le_succ _) rfl T.m22 T.f22.kp T.b22 (c_val (e_frz (o_call G8 (Nat.le_succ _) rfl T.m8 T.f8.kp T.b8 (c_val (e_name (pv 3)) (c_val (e_sl (e_name (pv 7)) p_none (p_some (e_bin d_add (e_name (pv 10)) e_int))) c_nil)))) (c_val (e_name (pv 13)) c_nil)))) (fun _ => rfl))) (w_or1 (t_not (t_tru (e_frz (o_call G22 (Nat.le_succ _) rfl T.m22 T.f22.kp T.b22 (c_val (e_ix (e_ix (e_name (pv 9)) e_int (fun _ _ => rfl)) e_int (fun _ _ => rfl)) (c_val (e_name (pv 13)) c_nil)))) (fun _ => rfl)))))) (b_one (s_ret (o_val e_bl))) b_nil)
  (b_one (s_if (t_not (t_tru (e_frz (o_call G35 (Nat.le_succ _) rfl T.m35 T.f35.kp T.b35 (c_val (e_name (pv 8)) (c_val (e_name (pv 9)) (c_lend (pv 5) (c_val (e_name (pv 6)) c_nil)))))) (fun _ => rfl))) (b_one (s_ret (o_val e_bl))) b_nil)))))))
  (b_one (s_ret (o_val e_bl))))))))))))))
theorem all_ok (T : Txt K mg fa fd ta w.params cl) : ∀ n : Nat, Ok P w K mg base fa fd cl n 0 P0 ∧ Ok P w K mg base fa fd cl n 1 P1 ∧ Ok P w K mg base fa fd cl n 2 P2 ∧ Ok P w K mg base fa fd cl n 3 P3 ∧ Ok P w K mg base fa fd cl n 4 P4 ∧ Ok P w K mg base fa fd cl n 5 P5 ∧ Ok P w K mg base fa fd cl n 6 P6 ∧ Ok P w K mg base fa fd cl n 7 P7 ∧ Ok P w K mg base fa fd cl n 8 P8 ∧ Ok P w K mg base fa fd cl n 9 P9 ∧ Ok P w K mg base fa fd cl n 10 P10 ∧ Ok P w K mg base fa fd cl n 11 P11 ∧ Ok P w K mg base fa fd cl n 12 P12 ∧ Ok P w K mg base fa fd cl n 13 P13 ∧ Ok P w K mg base fa fd cl n 14 P14 ∧ Ok P w K mg base fa fd cl n 15 P15 ∧ Ok P w K mg base fa fd cl n 16 P16 ∧ Ok P w K mg base fa fd cl n 17 P17 ∧ Ok P w K mg base fa fd cl n 18 P18 ∧ Ok P w K mg base fa fd cl n 19 P19 ∧ Ok P w K mg base fa fd cl n 20 P20 ∧ Ok P w K mg base fa fd cl n 21 P21 ∧ Ok P w K mg base fa fd cl n 22 P22 ∧ Ok P w K mg base fa fd cl n 23 P23 ∧ Ok P w K mg base fa fd cl n 24 P24 ∧ Ok P w K mg base fa fd cl n 25 P25 ∧ Ok P w K mg base fa fd cl n 26 P26 ∧ Ok P w K mg base fa fd cl n 27 P27 ∧ Ok P w K mg base fa fd cl n 28 P28 ∧ Ok P w K mg base fa fd cl n 29 P29 ∧ Ok P w K mg base fa fd cl n 30 P30 ∧ Ok P w K mg base fa fd cl n 31 P31 ∧ Ok P w K mg base fa fd cl n 32 P32 ∧ Ok P w K mg base fa fd cl n 33 P33 ∧ Ok P w K mg base fa fd cl n 34 P34 ∧ Ok P w K mg base fa fd cl n 35 P35 ∧ Ok P w K mg base fa fd cl n 36 P36
  | 0 => ⟨none_ok, none_ok, none_ok, none_ok, none_ok, none_ok, none_ok, none_ok, none_ok, none_ok, none_ok, none_ok, none_ok, none_ok, none_ok, none_ok, none_ok, none_ok, none_ok, none_ok, none_ok, none_ok, none_ok, none_ok, none_ok, none_ok, none_ok, none_ok, none_ok, none_ok, none_ok, none_ok, none_ok, none_ok, none_ok, none_ok, none_ok⟩
  | n + 1 => by
    obtain ⟨h0, h1, h2, h3, h4, h5, h6, h7, h8, h9, h10, h11, h12, h13, h14, h15, h16, h17, h18, h19, h20, h21, h22, h23, h24, h25, h26, h27, h28, h29, h30, h31, h32, h33, h34, h35, h36⟩ := all_ok T n
    exact ⟨ok0 T n , ok1 T n h0, ok2 T n h8, ok3 T n h0 h8, ok4 T n h2 h1, ok5 T n h2, ok6 T n h8 h2, ok7 T n h2, ok8 T n h6 h5 h4 h8 h7 h3, ok9 T n , ok10 T n h9 h10, ok11 T n h10, ok12 T n h0, ok13 T n h1, ok14 T n , ok15 T n h12, ok16 T n h15 h14 h13, ok17 T n h9 h10, ok18 T n h11 h19, ok19 T n h18 h16 h9 h19 h17, ok20 T n , ok21 T n , ok22 T n h22, ok23 T n h21, ok24 T n , ok25 T n h24, ok26 T n h25 h23, ok27 T n , ok28 T n h27, ok29 T n h23, ok30 T n h23, ok31 T n h31 h23 h30, ok32 T n h23 h26, ok33 T n h28 h26, ok34 T n , ok35 T n h22 h34, ok36 T n h35 h22 h8 h34 h19 h11 h33 h28 h32 h31 h23 h29 h20⟩
end
def DEEP : Nat := 60
theorem all_mk {l : PySem.W.OpenLaw} {w : World} {K : PySem.W.Frag} {h : Heap} {mg : Str → Option Value} {fz f0 f1 f2 f3 f4 f5 f6 f7 f8 f9 f10 f11 f12 f13 f14 f15 f16 f17 f18 f19 f20 f21 f22 f23 f24 f25 f26 f27 f28 f29 f30 f31 f32 f33 f34 f35 f36 : Addr} (X : K.In h) (G : h.Ns mainGlobals mg) (hfa : mg "law" = some (.ref fz))
    {od0 an0 od1 an1 od2 an2 od3 an3 od4 an4 od5 an5 od6 an6 od7 an7 od8 an8 od9 an9 od10 an10 od11 an11 od12 an12 od13 an13 od14 an14 od15 an15 od16 an16 od17 an17 od18 an18 od19 an19 od20 an20 od21 an21 od22 an22 od23 an23 od24 an24 od25 an25 od26 an26 od27 an27 od28 an28 od29 an29 od30 an30 od31 an31 od32 an32 od33 an33 od34 an34 od35 an35 od36 an36 : Option Addr} {sl0 sl1 sl2 sl3 sl4 sl5 sl6 sl7 sl8 sl9 sl10 sl11 sl12 sl13 sl14 sl15 sl16 sl17 sl18 sl19 sl20 sl21 sl22 sl23 sl24 sl25 sl26 sl27 sl28 sl29 sl30 sl31 sl32 sl33 sl34 sl35 sl36 : Array (Option Value)} {oc0 kV0 dc0 pm0 cd0 ct0 oc1 kV1 dc1 pm1 cd1 ct1 oc2 kV2 dc2 pm2 cd2 ct2 oc3 kV3 dc3 pm3 cd3 ct3 oc4 kV4 dc4 pm4 cd4 ct4 oc5 kV5 dc5 pm5 cd5 ct5 oc6 kV6 dc6 pm6 cd6 ct6 oc7 kV7 dc7 pm7 cd7 ct7 oc8 kV8 dc8 pm8 cd8 ct8 oc9 kV9 dc9 pm9 cd9 ct9 oc10 kV10 dc10 pm10 cd10 ct10 oc11 kV11 dc11 pm11 cd11 ct11 oc12 kV12 dc12 pm12 cd12 ct12 oc13 kV13 dc13 pm13 cd13 ct13 oc14 kV14 dc14 pm14 cd14 ct14 oc15 kV15 dc15 pm15 cd15 ct15 oc16 kV16 dc16 pm16 cd16 ct16 oc17 kV17 dc17 pm17 cd17 ct17 oc18 kV18 dc18 pm18 cd18 ct18 oc19 kV19 dc19 pm19 cd19 ct19 oc20 kV20 dc20 pm20 cd20 ct20 oc21 kV21 dc21 pm21 cd21 ct21 oc22 kV22 dc22 pm22 cd22 ct22 oc23 kV23 dc23 pm23 cd23 ct23 oc24 kV24 dc24 pm24 cd24 ct24 oc25 kV25 dc25 pm25 cd25 ct25 oc26 kV26 dc26 pm26 cd26 ct26 oc27 kV27 dc27 pm27 cd27 ct27 oc28 kV28 dc28 pm28 cd28 ct28 oc29 kV29 dc29 pm29 cd29 ct29 oc30 kV30 dc30 pm30 cd30 ct30 oc31 kV31 dc31 pm31 cd31 ct31 oc32 kV32 dc32 pm32 cd32 ct32 oc33 kV33 dc33 pm33 cd33 ct33 oc34 kV34 dc34 pm34 cd34 ct34 oc35 kV35 dc35 pm35 cd35 ct35 oc36 kV36 dc36 pm36 cd36 ct36 : Value}
    (a0 : PySem.W.nsIn K mainGlobals "less" = some (some (.ref f0))) (l0 : K.lookup f0 = some ⟨oc0, od0, .func (PySem.W.fnOf "less" "less" (defArgs s0) (defBody s0) (defScope s0) .none kV0 dc0 pm0 an0 cd0 ct0), sl0⟩) (c0 : PySem.W.codeIn K cd0 "less" = true) (k0 : PySem.W.keepIn K (.ref f0) = true)
    (a1 : PySem.W.nsIn K mainGlobals "inserted" = some (some (.ref f1))) (l1 : K.lookup f1 = some ⟨oc1, od1, .func (PySem.W.fnOf "inserted" "inserted" (defArgs s1) (defBody s1) (defScope s1) .none kV1 dc1 pm1 an1 cd1 ct1), sl1⟩) (c1 : PySem.W.codeIn K cd1 "inserted" = true) (k1 : PySem.W.keepIn K (.ref f1) = true)
    (a2 : PySem.W.nsIn K mainGlobals "answers" = some (some (.ref f2))) (l2 : K.lookup f2 = some ⟨oc2, od2, .func (PySem.W.fnOf "answers" "answers" (defArgs s2) (defBody s2) (defScope s2) .none kV2 dc2 pm2 an2 cd2 ct2), sl2⟩) (c2 : PySem.W.codeIn K cd2 "answers" = true) (k2 : PySem.W.keepIn K (.ref f2) = true)
    (a3 : PySem.W.nsIn K mainGlobals "compared_meaning" = some (some (.ref f3))) (l3 : K.lookup f3 = some ⟨oc3, od3, .func (PySem.W.fnOf "compared" "compared" (defArgs s3) (defBody s3) (defScope s3) .none kV3 dc3 pm3 an3 cd3 ct3), sl3⟩) (c3 : PySem.W.codeIn K cd3 "compared" = true) (k3 : PySem.W.keepIn K (.ref f3) = true)
    (a4 : PySem.W.nsIn K mainGlobals "ordered_meaning" = some (some (.ref f4))) (l4 : K.lookup f4 = some ⟨oc4, od4, .func (PySem.W.fnOf "ordered" "ordered" (defArgs s4) (defBody s4) (defScope s4) .none kV4 dc4 pm4 an4 cd4 ct4), sl4⟩) (c4 : PySem.W.codeIn K cd4 "ordered" = true) (k4 : PySem.W.keepIn K (.ref f4) = true)
    (a5 : PySem.W.nsIn K mainGlobals "counted_meaning" = some (some (.ref f5))) (l5 : K.lookup f5 = some ⟨oc5, od5, .func (PySem.W.fnOf "counted" "counted" (defArgs s5) (defBody s5) (defScope s5) .none kV5 dc5 pm5 an5 cd5 ct5), sl5⟩) (c5 : PySem.W.codeIn K cd5 "counted" = true) (k5 : PySem.W.keepIn K (.ref f5) = true)
    (a6 : PySem.W.nsIn K mainGlobals "picked" = some (some (.ref f6))) (l6 : K.lookup f6 = some ⟨oc6, od6, .func (PySem.W.fnOf "picked" "picked" (defArgs s6) (defBody s6) (defScope s6) .none kV6 dc6 pm6 an6 cd6 ct6), sl6⟩) (c6 : PySem.W.codeIn K cd6 "picked" = true) (k6 : PySem.W.keepIn K (.ref f6) = true)
    (a7 : PySem.W.nsIn K mainGlobals "reached" = some (some (.ref f7))) (l7 : K.lookup f7 = some ⟨oc7, od7, .func (PySem.W.fnOf "reached" "reached" (defArgs s7) (defBody s7) (defScope s7) .none kV7 dc7 pm7 an7 cd7 ct7), sl7⟩) (c7 : PySem.W.codeIn K cd7 "reached" = true) (k7 : PySem.W.keepIn K (.ref f7) = true)
    (a8 : PySem.W.nsIn K mainGlobals "meaning" = some (some (.ref f8))) (l8 : K.lookup f8 = some ⟨oc8, od8, .func (PySem.W.fnOf "meaning" "meaning" (defArgs s8) (defBody s8) (defScope s8) .none kV8 dc8 pm8 an8 cd8 ct8), sl8⟩) (c8 : PySem.W.codeIn K cd8 "meaning" = true) (k8 : PySem.W.keepIn K (.ref f8) = true)
    (a9 : PySem.W.nsIn K mainGlobals "children" = some (some (.ref f9))) (l9 : K.lookup f9 = some ⟨oc9, od9, .func (PySem.W.fnOf "children" "children" (defArgs s9) (defBody s9) (defScope s9) .none kV9 dc9 pm9 an9 cd9 ct9), sl9⟩) (c9 : PySem.W.codeIn K cd9 "children" = true) (k9 : PySem.W.keepIn K (.ref f9) = true)
    (a10 : PySem.W.nsIn K mainGlobals "parts" = some (some (.ref f10))) (l10 : K.lookup f10 = some ⟨oc10, od10, .func (PySem.W.fnOf "parts" "parts" (defArgs s10) (defBody s10) (defScope s10) .none kV10 dc10 pm10 an10 cd10 ct10), sl10⟩) (c10 : PySem.W.codeIn K cd10 "parts" = true) (k10 : PySem.W.keepIn K (.ref f10) = true)
    (a11 : PySem.W.nsIn K mainGlobals "first_cells" = some (some (.ref f11))) (l11 : K.lookup f11 = some ⟨oc11, od11, .func (PySem.W.fnOf "first_cells" "first_cells" (defArgs s11) (defBody s11) (defScope s11) .none kV11 dc11 pm11 an11 cd11 ct11), sl11⟩) (c11 : PySem.W.codeIn K cd11 "first_cells" = true) (k11 : PySem.W.keepIn K (.ref f11) = true)
    (a12 : PySem.W.nsIn K mainGlobals "compared_memory" = some (some (.ref f12))) (l12 : K.lookup f12 = some ⟨oc12, od12, .func (PySem.W.fnOf "compared" "compared" (defArgs s12) (defBody s12) (defScope s12) .none kV12 dc12 pm12 an12 cd12 ct12), sl12⟩) (c12 : PySem.W.codeIn K cd12 "compared" = true) (k12 : PySem.W.keepIn K (.ref f12) = true)
    (a13 : PySem.W.nsIn K mainGlobals "ordered_memory" = some (some (.ref f13))) (l13 : K.lookup f13 = some ⟨oc13, od13, .func (PySem.W.fnOf "ordered" "ordered" (defArgs s13) (defBody s13) (defScope s13) .none kV13 dc13 pm13 an13 cd13 ct13), sl13⟩) (c13 : PySem.W.codeIn K cd13 "ordered" = true) (k13 : PySem.W.keepIn K (.ref f13) = true)
    (a14 : PySem.W.nsIn K mainGlobals "counted_memory" = some (some (.ref f14))) (l14 : K.lookup f14 = some ⟨oc14, od14, .func (PySem.W.fnOf "counted" "counted" (defArgs s14) (defBody s14) (defScope s14) .none kV14 dc14 pm14 an14 cd14 ct14), sl14⟩) (c14 : PySem.W.codeIn K cd14 "counted" = true) (k14 : PySem.W.keepIn K (.ref f14) = true)
    (a15 : PySem.W.nsIn K mainGlobals "plain" = some (some (.ref f15))) (l15 : K.lookup f15 = some ⟨oc15, od15, .func (PySem.W.fnOf "plain" "plain" (defArgs s15) (defBody s15) (defScope s15) .none kV15 dc15 pm15 an15 cd15 ct15), sl15⟩) (c15 : PySem.W.codeIn K cd15 "plain" = true) (k15 : PySem.W.keepIn K (.ref f15) = true)
    (a16 : PySem.W.nsIn K mainGlobals "own_cell" = some (some (.ref f16))) (l16 : K.lookup f16 = some ⟨oc16, od16, .func (PySem.W.fnOf "own_cell" "own_cell" (defArgs s16) (defBody s16) (defScope s16) .none kV16 dc16 pm16 an16 cd16 ct16), sl16⟩) (c16 : PySem.W.codeIn K cd16 "own_cell" = true) (k16 : PySem.W.keepIn K (.ref f16) = true)
    (a17 : PySem.W.nsIn K mainGlobals "split" = some (some (.ref f17))) (l17 : K.lookup f17 = some ⟨oc17, od17, .func (PySem.W.fnOf "split" "split" (defArgs s17) (defBody s17) (defScope s17) .none kV17 dc17 pm17 an17 cd17 ct17), sl17⟩) (c17 : PySem.W.codeIn K cd17 "split" = true) (k17 : PySem.W.keepIn K (.ref f17) = true)
    (a18 : PySem.W.nsIn K mainGlobals "hear_split" = some (some (.ref f18))) (l18 : K.lookup f18 = some ⟨oc18, od18, .func (PySem.W.fnOf "hear_split" "hear_split" (defArgs s18) (defBody s18) (defScope s18) .none kV18 dc18 pm18 an18 cd18 ct18), sl18⟩) (c18 : PySem.W.codeIn K cd18 "hear_split" = true) (k18 : PySem.W.keepIn K (.ref f18) = true)
    (a19 : PySem.W.nsIn K mainGlobals "hear_cells" = some (some (.ref f19))) (l19 : K.lookup f19 = some ⟨oc19, od19, .func (PySem.W.fnOf "hear_cells" "hear_cells" (defArgs s19) (defBody s19) (defScope s19) .none kV19 dc19 pm19 an19 cd19 ct19), sl19⟩) (c19 : PySem.W.codeIn K cd19 "hear_cells" = true) (k19 : PySem.W.keepIn K (.ref f19) = true)
    (a20 : PySem.W.nsIn K mainGlobals "_law_tape" = some (some (.ref f20))) (l20 : K.lookup f20 = some ⟨oc20, od20, .func (PySem.W.fnOf "_law_tape" "_law_tape" (defArgs s20) (defBody s20) (defScope s20) .none kV20 dc20 pm20 an20 cd20 ct20), sl20⟩) (c20 : PySem.W.codeIn K cd20 "_law_tape" = true) (k20 : PySem.W.keepIn K (.ref f20) = true)
    (a21 : PySem.W.nsIn K mainGlobals "_law_draw" = some (some (.ref f21))) (l21 : K.lookup f21 = some ⟨oc21, od21, .func (PySem.W.fnOf "_law_draw" "_law_draw" (defArgs s21) (defBody s21) (defScope s21) .none kV21 dc21 pm21 an21 cd21 ct21), sl21⟩) (c21 : PySem.W.codeIn K cd21 "_law_draw" = true) (k21 : PySem.W.keepIn K (.ref f21) = true)
    (a22 : PySem.W.nsIn K mainGlobals "_law_equal" = some (some (.ref f22))) (l22 : K.lookup f22 = some ⟨oc22, od22, .func (PySem.W.fnOf "_law_equal" "_law_equal" (defArgs s22) (defBody s22) (defScope s22) .none kV22 dc22 pm22 an22 cd22 ct22), sl22⟩) (c22 : PySem.W.codeIn K cd22 "_law_equal" = true) (k22 : PySem.W.keepIn K (.ref f22) = true)
    (a23 : PySem.W.nsIn K mainGlobals "_law_take" = some (some (.ref f23))) (l23 : K.lookup f23 = some ⟨oc23, od23, .func (PySem.W.fnOf "_law_take" "_law_take" (defArgs s23) (defBody s23) (defScope s23) .none kV23 dc23 pm23 an23 cd23 ct23), sl23⟩) (c23 : PySem.W.codeIn K cd23 "_law_take" = true) (k23 : PySem.W.keepIn K (.ref f23) = true)
    (a24 : PySem.W.nsIn K mainGlobals "_law_common" = some (some (.ref f24))) (l24 : K.lookup f24 = some ⟨oc24, od24, .func (PySem.W.fnOf "_law_common" "_law_common" (defArgs s24) (defBody s24) (defScope s24) .none kV24 dc24 pm24 an24 cd24 ct24), sl24⟩) (c24 : PySem.W.codeIn K cd24 "_law_common" = true) (k24 : PySem.W.keepIn K (.ref f24) = true)
    (a25 : PySem.W.nsIn K mainGlobals "_law_pair" = some (some (.ref f25))) (l25 : K.lookup f25 = some ⟨oc25, od25, .func (PySem.W.fnOf "_law_pair" "_law_pair" (defArgs s25) (defBody s25) (defScope s25) .none kV25 dc25 pm25 an25 cd25 ct25), sl25⟩) (c25 : PySem.W.codeIn K cd25 "_law_pair" = true) (k25 : PySem.W.keepIn K (.ref f25) = true)
    (a26 : PySem.W.nsIn K mainGlobals "_law_number" = some (some (.ref f26))) (l26 : K.lookup f26 = some ⟨oc26, od26, .func (PySem.W.fnOf "_law_number" "_law_number" (defArgs s26) (defBody s26) (defScope s26) .none kV26 dc26 pm26 an26 cd26 ct26), sl26⟩) (c26 : PySem.W.codeIn K cd26 "_law_number" = true) (k26 : PySem.W.keepIn K (.ref f26) = true)
    (a27 : PySem.W.nsIn K mainGlobals "_law_less" = some (some (.ref f27))) (l27 : K.lookup f27 = some ⟨oc27, od27, .func (PySem.W.fnOf "_law_less" "_law_less" (defArgs s27) (defBody s27) (defScope s27) .none kV27 dc27 pm27 an27 cd27 ct27), sl27⟩) (c27 : PySem.W.codeIn K cd27 "_law_less" = true) (k27 : PySem.W.keepIn K (.ref f27) = true)
    (a28 : PySem.W.nsIn K mainGlobals "_law_with" = some (some (.ref f28))) (l28 : K.lookup f28 = some ⟨oc28, od28, .func (PySem.W.fnOf "_law_with" "_law_with" (defArgs s28) (defBody s28) (defScope s28) .none kV28 dc28 pm28 an28 cd28 ct28), sl28⟩) (c28 : PySem.W.codeIn K cd28 "_law_with" = true) (k28 : PySem.W.keepIn K (.ref f28) = true)
    (a29 : PySem.W.nsIn K mainGlobals "_law_names" = some (some (.ref f29))) (l29 : K.lookup f29 = some ⟨oc29, od29, .func (PySem.W.fnOf "_law_names" "_law_names" (defArgs s29) (defBody s29) (defScope s29) .none kV29 dc29 pm29 an29 cd29 ct29), sl29⟩) (c29 : PySem.W.codeIn K cd29 "_law_names" = true) (k29 : PySem.W.keepIn K (.ref f29) = true)
    (a30 : PySem.W.nsIn K mainGlobals "_law_leaf" = some (some (.ref f30))) (l30 : K.lookup f30 = some ⟨oc30, od30, .func (PySem.W.fnOf "_law_leaf" "_law_leaf" (defArgs s30) (defBody s30) (defScope s30) .none kV30 dc30 pm30 an30 cd30 ct30), sl30⟩) (c30 : PySem.W.codeIn K cd30 "_law_leaf" = true) (k30 : PySem.W.keepIn K (.ref f30) = true)
    (a31 : PySem.W.nsIn K mainGlobals "_law_tree" = some (some (.ref f31))) (l31 : K.lookup f31 = some ⟨oc31, od31, .func (PySem.W.fnOf "_law_tree" "_law_tree" (defArgs s31) (defBody s31) (defScope s31) .none kV31 dc31 pm31 an31 cd31 ct31), sl31⟩) (c31 : PySem.W.codeIn K cd31 "_law_tree" = true) (k31 : PySem.W.keepIn K (.ref f31) = true)
    (a32 : PySem.W.nsIn K mainGlobals "_law_row" = some (some (.ref f32))) (l32 : K.lookup f32 = some ⟨oc32, od32, .func (PySem.W.fnOf "_law_row" "_law_row" (defArgs s32) (defBody s32) (defScope s32) .none kV32 dc32 pm32 an32 cd32 ct32), sl32⟩) (c32 : PySem.W.codeIn K cd32 "_law_row" = true) (k32 : PySem.W.keepIn K (.ref f32) = true)
    (a33 : PySem.W.nsIn K mainGlobals "_law_others" = some (some (.ref f33))) (l33 : K.lookup f33 = some ⟨oc33, od33, .func (PySem.W.fnOf "_law_others" "_law_others" (defArgs s33) (defBody s33) (defScope s33) .none kV33 dc33 pm33 an33 cd33 ct33), sl33⟩) (c33 : PySem.W.codeIn K cd33 "_law_others" = true) (k33 : PySem.W.keepIn K (.ref f33) = true)
    (a34 : PySem.W.nsIn K mainGlobals "_law_replaced" = some (some (.ref f34))) (l34 : K.lookup f34 = some ⟨oc34, od34, .func (PySem.W.fnOf "_law_replaced" "_law_replaced" (defArgs s34) (defBody s34) (defScope s34) .none kV34 dc34 pm34 an34 cd34 ct34), sl34⟩) (c34 : PySem.W.codeIn K cd34 "_law_replaced" = true) (k34 : PySem.W.keepIn K (.ref f34) = true)
    (a35 : PySem.W.nsIn K mainGlobals "_law_alike" = some (some (.ref f35))) (l35 : K.lookup f35 = some ⟨oc35, od35, .func (PySem.W.fnOf "_law_alike" "_law_alike" (defArgs s35) (defBody s35) (defScope s35) .none kV35 dc35 pm35 an35 cd35 ct35), sl35⟩) (c35 : PySem.W.codeIn K cd35 "_law_alike" = true) (k35 : PySem.W.keepIn K (.ref f35) = true)
    (a36 : PySem.W.nsIn K mainGlobals "law" = some (some (.ref f36))) (l36 : K.lookup f36 = some ⟨oc36, od36, .func (PySem.W.fnOf "law" "law" (defArgs s36) (defBody s36) (defScope s36) .none kV36 dc36 pm36 an36 cd36 ct36), sl36⟩) (c36 : PySem.W.codeIn K cd36 "law" = true) (k36 : PySem.W.keepIn K (.ref f36) = true)
    (b_abs : PySem.W.nsIn K mainGlobals "abs" = some none)
    (b_bool : PySem.W.nsIn K mainGlobals "bool" = some none)
    (b_enumerate : PySem.W.nsIn K mainGlobals "enumerate" = some none)
    (b_int : PySem.W.nsIn K mainGlobals "int" = some none)
    (b_isinstance : PySem.W.nsIn K mainGlobals "isinstance" = some none)
    (b_len : PySem.W.nsIn K mainGlobals "len" = some none)
    (b_list : PySem.W.nsIn K mainGlobals "list" = some none)
    (b_max : PySem.W.nsIn K mainGlobals "max" = some none)
    (b_min : PySem.W.nsIn K mainGlobals "min" = some none)
    (b_range : PySem.W.nsIn K mainGlobals "range" = some none)
    (b_str : PySem.W.nsIn K mainGlobals "str" = some none)
    (b_sum : PySem.W.nsIn K mainGlobals "sum" = some none)
    (b_tuple : PySem.W.nsIn K mainGlobals "tuple" = some none)
    (b_zip : PySem.W.nsIn K mainGlobals "zip" = some none)
    {p_EMPTY_2 : Addr}
    {p_EMPTY : Addr}
    (g_EMPTY : PySem.W.nsIn K mainGlobals "EMPTY" = some (some (.ref p_EMPTY)))
    {q_EMPTY : Option Addr} {i_EMPTY : Array Value} {m_EMPTY : Nat} {s_EMPTY : Array (Option Value)} (u_EMPTY : K.lookup p_EMPTY = some ⟨.type "tuple", q_EMPTY, .seq i_EMPTY m_EMPTY, s_EMPTY⟩) (h_EMPTY : i_EMPTY.size ≤ sizeLine) (r_EMPTY : Vals [V.non, V.int 0, .ref p_EMPTY_2] i_EMPTY.toList)
    {q_EMPTY_2 : Option Addr} {i_EMPTY_2 : Array Value} {m_EMPTY_2 : Nat} {s_EMPTY_2 : Array (Option Value)} (u_EMPTY_2 : K.lookup p_EMPTY_2 = some ⟨.type "tuple", q_EMPTY_2, .seq i_EMPTY_2 m_EMPTY_2, s_EMPTY_2⟩) (h_EMPTY_2 : i_EMPTY_2.size ≤ sizeLine) (r_EMPTY_2 : Vals [] i_EMPTY_2.toList)
    : ∃ fd : FuncData, (∀ (s : Shared) (v : Value), BindsTo s fd ⟨[v], []⟩ [("_law_script", v)]) ∧ ∀ base : Heap, K.In base → base.Ns mainGlobals mg → FnOk l.prog w K mg base (L2.CX l.prog w) (2 * DEEP) fz fd ["_law_script"] (spD K (fun _ => 0) 1 (call DEEP 36)) := by
  have e := hfa.symm.trans (PySem.W.mg_of X G a36)
  cases e
  have F0 := fun_mk (st := s0) l0 c0 k0
  have F1 := fun_mk (st := s1) l1 c1 k1
  have F2 := fun_mk (st := s2) l2 c2 k2
  have F3 := fun_mk (st := s3) l3 c3 k3
  have F4 := fun_mk (st := s4) l4 c4 k4
  have F5 := fun_mk (st := s5) l5 c5 k5
  have F6 := fun_mk (st := s6) l6 c6 k6
  have F7 := fun_mk (st := s7) l7 c7 k7
  have F8 := fun_mk (st := s8) l8 c8 k8
  have F9 := fun_mk (st := s9) l9 c9 k9
  have F10 := fun_mk (st := s10) l10 c10 k10
  have F11 := fun_mk (st := s11) l11 c11 k11
  have F12 := fun_mk (st := s12) l12 c12 k12
  have F13 := fun_mk (st := s13) l13 c13 k13
  have F14 := fun_mk (st := s14) l14 c14 k14
  have F15 := fun_mk (st := s15) l15 c15 k15
  have F16 := fun_mk (st := s16) l16 c16 k16
  have F17 := fun_mk (st := s17) l17 c17 k17
  have F18 := fun_mk (st := s18) l18 c18 k18
  have F19 := fun_mk (st := s19) l19 c19 k19
  have F20 := fun_mk (st := s20) l20 c20 k20
  have F21 := fun_mk (st := s21) l21 c21 k21
  have F22 := fun_mk (st := s22) l22 c22 k22
  have F23 := fun_mk (st := s23) l23 c23 k23
  have F24 := fun_mk (st := s24) l24 c24 k24
  have F25 := fun_mk (st := s25) l25 c25 k25
  have F26 := fun_mk (st := s26) l26 c26 k26
  have F27 := fun_mk (st := s27) l27 c27 k27
  have F28 := fun_mk (st := s28) l28 c28 k28
  have F29 := fun_mk (st := s29) l29 c29 k29
  have F30 := fun_mk (st := s30) l30 c30 k30
  have F31 := fun_mk (st := s31) l31 c31 k31
  have F32 := fun_mk (st := s32) l32 c32 k32
  have F33 := fun_mk (st := s33) l33 c33 k33
  have F34 := fun_mk (st := s34) l34 c34 k34
  have F35 := fun_mk (st := s35) l35 c35 k35
  have F36 := fun_mk (st := s36) l36 c36 k36
  have B0 := F0.binds (ps := P0) fun _ _ _ _ _ _ us hl => match us, hl with | [_, _], _ => rfl
  have B1 := F1.binds (ps := P1) fun _ _ _ _ _ _ us hl => match us, hl with | [_, _], _ => rfl
  have B2 := F2.binds (ps := P2) fun _ _ _ _ _ _ us hl => match us, hl with | [_, _], _ => rfl
  have B3 := F3.binds (ps := P3) fun _ _ _ _ _ _ us hl => match us, hl with | [_, _], _ => rfl
  have B4 := F4.binds (ps := P4) fun _ _ _ _ _ _ us hl => match us, hl with | [_, _], _ => rfl
  have B5 := F5.binds (ps := P5) fun _ _ _ _ _ _ us hl => match us, hl with | [_, _], _ => rfl
  have B6 := F6.binds (ps := P6) fun _ _ _ _ _ _ us hl => match us, hl with | [_, _], _ => rfl
  have B7 := F7.binds (ps := P7) fun _ _ _ _ _ _ us hl => match us, hl with | [_, _], _ => rfl
  have B8 := F8.binds (ps := P8) fun _ _ _ _ _ _ us hl => match us, hl with | [_, _], _ => rfl
  have B9 := F9.binds (ps := P9) fun _ _ _ _ _ _ us hl => match us, hl with | [_], _ => rfl
  have B10 := F10.binds (ps := P10) fun _ _ _ _ _ _ us hl => match us, hl with | [_], _ => rfl
  have B11 := F11.binds (ps := P11) fun _ _ _ _ _ _ us hl => match us, hl with | [_], _ => rfl
  have B12 := F12.binds (ps := P12) fun _ _ _ _ _ _ us hl => match us, hl with | [_, _, _], _ => rfl
  have B13 := F13.binds (ps := P13) fun _ _ _ _ _ _ us hl => match us, hl with | [_, _, _], _ => rfl
  have B14 := F14.binds (ps := P14) fun _ _ _ _ _ _ us hl => match us, hl with | [_, _, _, _], _ => rfl
  have B15 := F15.binds (ps := P15) fun _ _ _ _ _ _ us hl => match us, hl with | [_, _, _, _], _ => rfl
  have B16 := F16.binds (ps := P16) fun _ _ _ _ _ _ us hl => match us, hl with | [_, _, _, _, _, _], _ => rfl
  have B17 := F17.binds (ps := P17) fun _ _ _ _ _ _ us hl => match us, hl with | [_, _], _ => rfl
  have B18 := F18.binds (ps := P18) fun _ _ _ _ _ _ us hl => match us, hl with | [_, _, _, _], _ => rfl
  have B19 := F19.binds (ps := P19) fun _ _ _ _ _ _ us hl => match us, hl with | [_, _, _, _], _ => rfl
  have B20 := F20.binds (ps := P20) fun _ _ _ _ _ _ us hl => match us, hl with | [_], _ => rfl
  have B21 := F21.binds (ps := P21) fun _ _ _ _ _ _ us hl => match us, hl with | [_, _, _], _ => rfl
  have B22 := F22.binds (ps := P22) fun _ _ _ _ _ _ us hl => match us, hl with | [_, _], _ => rfl
  have B23 := F23.binds (ps := P23) fun _ _ _ _ _ _ us hl => match us, hl with | [_, _], _ => rfl
  have B24 := F24.binds (ps := P24) fun _ _ _ _ _ _ us hl => match us, hl with | [_, _], _ => rfl
  have B25 := F25.binds (ps := P25) fun _ _ _ _ _ _ us hl => match us, hl with | [_, _], _ => rfl
  have B26 := F26.binds (ps := P26) fun _ _ _ _ _ _ us hl => match us, hl with | [_], _ => rfl
  have B27 := F27.binds (ps := P27) fun _ _ _ _ _ _ us hl => match us, hl with | [_, _], _ => rfl
  have B28 := F28.binds (ps := P28) fun _ _ _ _ _ _ us hl => match us, hl with | [_, _], _ => rfl
  have B29 := F29.binds (ps := P29) fun _ _ _ _ _ _ us hl => match us, hl with | [_], _ => rfl
  have B30 := F30.binds (ps := P30) fun _ _ _ _ _ _ us hl => match us, hl with | [_, _], _ => rfl
  have B31 := F31.binds (ps := P31) fun _ _ _ _ _ _ us hl => match us, hl with | [_, _, _], _ => rfl
  have B32 := F32.binds (ps := P32) fun _ _ _ _ _ _ us hl => match us, hl with | [_, _, _], _ => rfl
  have B33 := F33.binds (ps := P33) fun _ _ _ _ _ _ us hl => match us, hl with | [_, _], _ => rfl
  have B34 := F34.binds (ps := P34) fun _ _ _ _ _ _ us hl => match us, hl with | [_, _, _], _ => rfl
  have B35 := F35.binds (ps := P35) fun _ _ _ _ _ _ us hl => match us, hl with | [_, _, _, _], _ => rfl
  have B36 := F36.binds (ps := P36) fun _ _ _ _ _ _ us hl => match us, hl with | [_], _ => rfl
  let fa : Nat → Addr := fun k => [f0, f1, f2, f3, f4, f5, f6, f7, f8, f9, f10, f11, f12, f13, f14, f15, f16, f17, f18, f19, f20, f21, f22, f23, f24, f25, f26, f27, f28, f29, f30, f31, f32, f33, f34, f35, fz].getD k f0
  let fd : Nat → FuncData := fun k => [PySem.W.fnOf "less" "less" (defArgs s0) (defBody s0) (defScope s0) .none kV0 dc0 pm0 an0 cd0 ct0, PySem.W.fnOf "inserted" "inserted" (defArgs s1) (defBody s1) (defScope s1) .none kV1 dc1 pm1 an1 cd1 ct1, PySem.W.fnOf "answers" "answers" (defArgs s2) (defBody s2) (defScope s2) .none kV2 dc2 pm2 an2 cd2 ct2, PySem.W.fnOf "compared" "compared" (defArgs s3) (defBody s3) (defScope s3) .none kV3 dc3 pm3 an3 cd3 ct3, PySem.W.fnOf "ordered" "ordered" (defArgs s4) (defBody s4) (defScope s4) .none kV4 dc4 pm4 an4 cd4 ct4, PySem.W.fnOf "counted" "counted" (defArgs s5) (defBody s5) (defScope s5) .none kV5 dc5 pm5 an5 cd5 ct5, PySem.W.fnOf "picked" "picked" (defArgs s6) (defBody s6) (defScope s6) .none kV6 dc6 pm6 an6 cd6 ct6, PySem.W.fnOf "reached" "reached" (defArgs s7) (defBody s7) (defScope s7) .none kV7 dc7 pm7 an7 cd7 ct7, PySem.W.fnOf "meaning" "meaning" (defArgs s8) (defBody s8) (defScope s8) .none kV8 dc8 pm8 an8 cd8 ct8, PySem.W.fnOf "children" "children" (defArgs s9) (defBody s9) (defScope s9) .none kV9 dc9 pm9 an9 cd9 ct9, PySem.W.fnOf "parts" "parts" (defArgs s10) (defBody s10) (defScope s10) .none kV10 dc10 pm10 an10 cd10 ct10, PySem.W.fnOf "first_cells" "first_cells" (defArgs s11) (defBody s11) (defScope s11) .none kV11 dc11 pm11 an11 cd11 ct11, PySem.W.fnOf "compared" "compared" (defArgs s12) (defBody s12) (defScope s12) .none kV12 dc12 pm12 an12 cd12 ct12, PySem.W.fnOf "ordered" "ordered" (defArgs s13) (defBody s13) (defScope s13) .none kV13 dc13 pm13 an13 cd13 ct13, PySem.W.fnOf "counted" "counted" (defArgs s14) (defBody s14) (defScope s14) .none kV14 dc14 pm14 an14 cd14 ct14, PySem.W.fnOf "plain" "plain" (defArgs s15) (defBody s15) (defScope s15) .none kV15 dc15 pm15 an15 cd15 ct15, PySem.W.fnOf "own_cell" "own_cell" (defArgs s16) (defBody s16) (defScope s16) .none kV16 dc16 pm16 an16 cd16 ct16, PySem.W.fnOf "split" "split" (defArgs s17) (defBody s17) (defScope s17) .none kV17 dc17 pm17 an17 cd17 ct17, PySem.W.fnOf "hear_split" "hear_split" (defArgs s18) (defBody s18) (defScope s18) .none kV18 dc18 pm18 an18 cd18 ct18, PySem.W.fnOf "hear_cells" "hear_cells" (defArgs s19) (defBody s19) (defScope s19) .none kV19 dc19 pm19 an19 cd19 ct19, PySem.W.fnOf "_law_tape" "_law_tape" (defArgs s20) (defBody s20) (defScope s20) .none kV20 dc20 pm20 an20 cd20 ct20, PySem.W.fnOf "_law_draw" "_law_draw" (defArgs s21) (defBody s21) (defScope s21) .none kV21 dc21 pm21 an21 cd21 ct21, PySem.W.fnOf "_law_equal" "_law_equal" (defArgs s22) (defBody s22) (defScope s22) .none kV22 dc22 pm22 an22 cd22 ct22, PySem.W.fnOf "_law_take" "_law_take" (defArgs s23) (defBody s23) (defScope s23) .none kV23 dc23 pm23 an23 cd23 ct23, PySem.W.fnOf "_law_common" "_law_common" (defArgs s24) (defBody s24) (defScope s24) .none kV24 dc24 pm24 an24 cd24 ct24, PySem.W.fnOf "_law_pair" "_law_pair" (defArgs s25) (defBody s25) (defScope s25) .none kV25 dc25 pm25 an25 cd25 ct25, PySem.W.fnOf "_law_number" "_law_number" (defArgs s26) (defBody s26) (defScope s26) .none kV26 dc26 pm26 an26 cd26 ct26, PySem.W.fnOf "_law_less" "_law_less" (defArgs s27) (defBody s27) (defScope s27) .none kV27 dc27 pm27 an27 cd27 ct27, PySem.W.fnOf "_law_with" "_law_with" (defArgs s28) (defBody s28) (defScope s28) .none kV28 dc28 pm28 an28 cd28 ct28, PySem.W.fnOf "_law_names" "_law_names" (defArgs s29) (defBody s29) (defScope s29) .none kV29 dc29 pm29 an29 cd29 ct29, PySem.W.fnOf "_law_leaf" "_law_leaf" (defArgs s30) (defBody s30) (defScope s30) .none kV30 dc30 pm30 an30 cd30 ct30, PySem.W.fnOf "_law_tree" "_law_tree" (defArgs s31) (defBody s31) (defScope s31) .none kV31 dc31 pm31 an31 cd31 ct31, PySem.W.fnOf "_law_row" "_law_row" (defArgs s32) (defBody s32) (defScope s32) .none kV32 dc32 pm32 an32 cd32 ct32, PySem.W.fnOf "_law_others" "_law_others" (defArgs s33) (defBody s33) (defScope s33) .none kV33 dc33 pm33 an33 cd33 ct33, PySem.W.fnOf "_law_replaced" "_law_replaced" (defArgs s34) (defBody s34) (defScope s34) .none kV34 dc34 pm34 an34 cd34 ct34, PySem.W.fnOf "_law_alike" "_law_alike" (defArgs s35) (defBody s35) (defScope s35) .none kV35 dc35 pm35 an35 cd35 ct35, PySem.W.fnOf "law" "law" (defArgs s36) (defBody s36) (defScope s36) .none kV36 dc36 pm36 an36 cd36 ct36].getD k (PySem.W.fnOf "less" "less" (defArgs s0) (defBody s0) (defScope s0) .none kV0 dc0 pm0 an0 cd0 ct0)
  let ta : Nat → Addr := fun k => [].getD k 0
  have T : Txt K mg fa fd ta w.params (fun _ => 0) := {
    f0 := F0, m0 := PySem.W.mg_of X G a0, b0 := B0,
    f1 := F1, m1 := PySem.W.mg_of X G a1, b1 := B1,
    f2 := F2, m2 := PySem.W.mg_of X G a2, b2 := B2,
    f3 := F3, m3 := PySem.W.mg_of X G a3, b3 := B3,
    f4 := F4, m4 := PySem.W.mg_of X G a4, b4 := B4,
    f5 := F5, m5 := PySem.W.mg_of X G a5, b5 := B5,
    f6 := F6, m6 := PySem.W.mg_of X G a6, b6 := B6,
    f7 := F7, m7 := PySem.W.mg_of X G a7, b7 := B7,
    f8 := F8, m8 := PySem.W.mg_of X G a8, b8 := B8,
    f9 := F9, m9 := PySem.W.mg_of X G a9, b9 := B9,
    f10 := F10, m10 := PySem.W.mg_of X G a10, b10 := B10,
    f11 := F11, m11 := PySem.W.mg_of X G a11, b11 := B11,
    f12 := F12, m12 := PySem.W.mg_of X G a12, b12 := B12,
    f13 := F13, m13 := PySem.W.mg_of X G a13, b13 := B13,
    f14 := F14, m14 := PySem.W.mg_of X G a14, b14 := B14,
    f15 := F15, m15 := PySem.W.mg_of X G a15, b15 := B15,
    f16 := F16, m16 := PySem.W.mg_of X G a16, b16 := B16,
    f17 := F17, m17 := PySem.W.mg_of X G a17, b17 := B17,
    f18 := F18, m18 := PySem.W.mg_of X G a18, b18 := B18,
    f19 := F19, m19 := PySem.W.mg_of X G a19, b19 := B19,
    f20 := F20, m20 := PySem.W.mg_of X G a20, b20 := B20,
    f21 := F21, m21 := PySem.W.mg_of X G a21, b21 := B21,
    f22 := F22, m22 := PySem.W.mg_of X G a22, b22 := B22,
    f23 := F23, m23 := PySem.W.mg_of X G a23, b23 := B23,
    f24 := F24, m24 := PySem.W.mg_of X G a24, b24 := B24,
    f25 := F25, m25 := PySem.W.mg_of X G a25, b25 := B25,
    f26 := F26, m26 := PySem.W.mg_of X G a26, b26 := B26,
    f27 := F27, m27 := PySem.W.mg_of X G a27, b27 := B27,
    f28 := F28, m28 := PySem.W.mg_of X G a28, b28 := B28,
    f29 := F29, m29 := PySem.W.mg_of X G a29, b29 := B29,
    f30 := F30, m30 := PySem.W.mg_of X G a30, b30 := B30,
    f31 := F31, m31 := PySem.W.mg_of X G a31, b31 := B31,
    f32 := F32, m32 := PySem.W.mg_of X G a32, b32 := B32,
    f33 := F33, m33 := PySem.W.mg_of X G a33, b33 := B33,
    f34 := F34, m34 := PySem.W.mg_of X G a34, b34 := B34,
    f35 := F35, m35 := PySem.W.mg_of X G a35, b35 := B35,
    f36 := F36, m36 := PySem.W.mg_of X G a36, b36 := B36,
    n_abs := PySem.W.mg_none_of X G b_abs, n_bool := PySem.W.mg_none_of X G b_bool, n_enumerate := PySem.W.mg_none_of X G b_enumerate, n_int := PySem.W.mg_none_of X G b_int, n_isinstance := PySem.W.mg_none_of X G b_isinstance, n_len := PySem.W.mg_none_of X G b_len, n_list := PySem.W.mg_none_of X G b_list, n_max := PySem.W.mg_none_of X G b_max, n_min := PySem.W.mg_none_of X G b_min, n_range := PySem.W.mg_none_of X G b_range, n_str := PySem.W.mg_none_of X G b_str, n_sum := PySem.W.mg_none_of X G b_sum, n_tuple := PySem.W.mg_none_of X G b_tuple, n_zip := PySem.W.mg_none_of X G b_zip, c_EMPTY := ⟨.ref p_EMPTY, .ref p_EMPTY, PySem.W.mg_of X G g_EMPTY, rfl, fun F H => ⟨_, _, rfl, .inr ⟨_, _, _, u_EMPTY, rfl, rfl, h_EMPTY, r_EMPTY⟩, ⟨_, _, rfl, rfl, ⟨_, _, rfl, rfl, ⟨_, _, rfl, ⟨_, _, rfl, .inr ⟨_, _, _, u_EMPTY_2, rfl, rfl, h_EMPTY_2, r_EMPTY_2⟩, rfl⟩, rfl⟩⟩⟩⟩⟩ }
  refine ⟨fd 36, fun s v => .of_eq rfl, fun base _ _ => ?_⟩
  have Z := all_ok (P := l.prog) (w := w) (base := base) (cl := fun _ => 0) T DEEP
  exact Z.2.2.2.2.2.2.2.2.2.2.2.2.2.2.2.2.2.2.2.2.2.2.2.2.2.2.2.2.2.2.2.2.2.2.2.2
theorem walk (LT : ∀ ns : List Int, ns.length ≤ 63 → ∃ rs, call DEEP 36 [.val (.lsr (ns.map .int))] = some (.ok (.val (.bl true)), rs)) {l : PySem.W.OpenLaw} {q : Program} {loose : List Str} {XP : (Str → Option Value) → Heap → Prop} {YP : World → Heap → Prop} {d : DefRec} {K : Params → PySem.W.Frag} (hn : l.most = some 63) (hdf : d.params.defaults = [])
    (hY : ∀ (w : World) (h : Heap), YP w h → (K w.params).In h)
    (F : ∀ (w : World) (mg : Str → Option Value) (fa : Addr) (h : Heap), (K w.params).In h → h.Ns mainGlobals mg → mg d.name = some (.ref fa) →
      ∃ fd : FuncData, (∀ (s : Shared) (u : Value), BindsTo s fd ⟨[u], []⟩ [("_law_script", u)]) ∧ ∀ base : Heap, (K w.params).In base → base.Ns mainGlobals mg → FnOk l.prog w (K w.params) mg base (L2.CX l.prog w) (2 * DEEP) fa fd ["_law_script"] (spD (K w.params) (fun _ => 0) 1 (call DEEP 36))) :
    PySem.W.WalkO q loose XP YP l.row.toRowW d [] (fun f vs => PySem.call f vs) :=
  L2.walk_of (n := 63) (k := 2 * DEEP) (x := "_law_script") (CX := fun w => L2.CX l.prog w) (sp := fun w => spD (K w.params) (fun _ => 0) 1 (call DEEP 36)) hn (by decide) hdf ⟨rfl, by decide, by decide⟩ hY F (fun _ _ a ns hl _ hS => sp_main (LT ns hl) hS) fun w H s e s' h => cx_no w H s e s' h
end My

set_option Elab.async false
set_option linter.all false
set_option maxRecDepth 100000
namespace My
open PySem L2 KR
def fr (x : Int × Int) : D := .tup [.int x.1, .int x.2]
@[simp] theorem mk_fr {a b : Int} : (D.tup [.int a, .int b]) = fr (a, b) := rfl
@[simp] theorem fr_0 {x : Int × Int} : gix (fr x) (.int 0) = some (.int x.1) := atI_zero
@[simp] theorem fr_1 {x : Int × Int} : gix (fr x) (.int 1) = some (.int x.2) := atI_one
abbrev W (x : Int × Int) : RV := .val (fr x)
abbrev lt (x y : Int × Int) : Prop := x.1 * y.2 < y.1 * x.2
theorem less_eq {n : Nat} {x y : Int × Int} (h1 : sm x.1) (h2 : sm x.2) (h3 : sm y.1) (h4 : sm y.2) : call (n + 1) 0 [W x, W y] = some (.ok (.val (.bl (decide (lt x y)))), [W x, W y]) := by
  simp [call, bodies, runD, b0, backs, h1, h2, h3, h4]
theorem law_less_eq {n : Nat} {x y : Int × Int} (h1 : sm x.1) (h2 : sm x.2) (h3 : sm y.1) (h4 : sm y.2) : call (n + 1) 27 [W x, W y] = some (.ok (.val (.bl (decide (lt x y)))), [W x, W y]) := by
  simp [call, bodies, runD, b27, backs, h1, h2, h3, h4]
abbrev B9 : S := (seq (sif (tst (KR.bin geq (getv 1) (KR.ret (.int 0)))) (fl .bk) skip)
  (seq (sset 3 (val (KR.bin gmod (cal (f1 gint) (acons (getv 0) (KR.ret []))) (getv 1))))
  (seq (sset 0 (val (getv 1)))
  (sset 1 (val (getv 3))))))
theorem euclid_half {b r : Nat} (h0 : 0 < r) (h : r < b) : 2 * (b % r) < b := by
  have h1 := Nat.mod_lt b h0
  have h2 := Nat.div_add_mod b r
  have h3 : 1 ≤ b / r := Nat.div_pos (Nat.le_of_lt h) h0
  have h4 : r * 1 ≤ r * (b / r) := Nat.mul_le_mul_left r h3
  omega
theorem law_common_for : ∀ (s b a : Nat) (xs : List D) (u v : Option RV), b < 2 ^ s → 2 * s ≤ xs.length → ∃ u' v' w', forL (gnm 2) B9 xs [] [some (KR.I a), some (KR.I b), u, v] = some (.ok .nx, [some (KR.I (Nat.gcd a b)), w', u', v']) := by
  have zero : ∀ (a : Nat) (xs : List D) (u v : Option RV), ∃ u' v' w', forL (gnm 2) B9 xs [] [some (KR.I a), some (KR.I (0 : Nat)), u, v] = some (.ok .nx, [some (KR.I (Nat.gcd a 0)), w', u', v']) := by
    intro a xs u v
    cases xs with
    | nil => exact ⟨u, v, some (KR.I 0), by rw [forL_nil, Nat.gcd_zero_right]; rfl⟩
    | cons x xs =>
      refine ⟨some (.val x), v, some (KR.I 0), ?_⟩
      rw [forL_bk (ρ1 := [some (KR.I a), some (KR.I 0), some (.val x), v]) (ρ2 := [some (KR.I a), some (KR.I 0), some (.val x), v])]
      · simp
      · simp [gnm]
      · simp [seq, sif, sbnd, tst, KR.bin, bnd, getv, KR.ret, lift, geq, deq, asB, fl]
  have step : ∀ (a b : Nat) (x : D) (xs : List D) (u v : Option RV), 0 < b → forL (gnm 2) B9 (x :: xs) [] [some (KR.I a), some (KR.I b), u, v] = forL (gnm 2) B9 xs [] [some (KR.I b), some (KR.I (a % b : Nat)), some (.val x), some (KR.I (a % b : Nat))] := by
    intro a b x xs u v hb
    have hb2 : (0 : Int) < b := by omega
    have hb3 : ¬ b = 0 := by omega
    refine forL_nx (ρ1 := [some (KR.I a), some (KR.I b), some (.val x), v]) ?_ ?_
    · simp [gnm]
    · simp [seq, sif, sbnd, tst, KR.bin, bnd, getv, KR.ret, lift, geq, deq, asB, skip, sset, sput, val, cal, f1, gint, acons, gmod_pos hb2, hb3]
  intro s
  induction s with
  | zero =>
    intro b a xs u v hb hl
    obtain rfl : b = 0 := by simpa using hb
    exact zero a xs u v
  | succ s ih =>
    intro b a xs u v hb hl
    by_cases h0 : b = 0
    · subst h0
      exact zero a xs u v
    · have hp : 0 < b := Nat.pos_of_ne_zero h0
      match xs, hl with
      | x :: y :: xs, hl =>
        rw [step a b x (y :: xs) u v hp]
        have e1 : Nat.gcd a b = Nat.gcd b (a % b) := by rw [Nat.gcd_comm a b, Nat.gcd_rec b a, Nat.gcd_comm]
        rw [e1]
        by_cases hr : a % b = 0
        · rw [hr]
          exact zero b (y :: xs) _ _
        · have hr' : 0 < a % b := Nat.pos_of_ne_zero hr
          rw [step b (a % b) y xs _ _ hr']
          have e2 : Nat.gcd b (a % b) = Nat.gcd (a % b) (b % (a % b)) := by rw [Nat.gcd_comm b (a % b), Nat.gcd_rec (a % b) b, Nat.gcd_comm]
          rw [e2]
          have h2 := euclid_half hr' (Nat.mod_lt a hp)
          refine ih _ _ xs _ _ (by rw [Nat.pow_succ] at hb; omega) ?_
          simp at hl
          omega
theorem bits_lt (b : Nat) : b < 2 ^ (Builtin.Int.intBits (b : Int)) := by
  have := (PySem.intBits_le_iff (m := Builtin.Int.intBits (b : Int)) (x := (b : Int))).mp (Nat.le_refl _)
  simpa using this
theorem bits_le {b m : Nat} (h : b < 2 ^ m) : Builtin.Int.intBits (b : Int) ≤ m := (PySem.intBits_le_iff (m := m) (x := (b : Int))).mpr (by simpa using h)
theorem law_common_eq {n : Nat} (a b : Nat) (h : b < 2 ^ 200) : call (n + 1) 24 [KR.I a, KR.I b] = some (.ok (KR.I (Nat.gcd a b)), [KR.I a, KR.I b]) := by
  have h1 := bits_le h
  have h2 : okR (2 * ((Builtin.Int.intBits (b : Int) : Nat) : Int) + 3) := ⟨by omega, by omega⟩
  obtain ⟨u, v, w, e⟩ := law_common_for (Builtin.Int.intBits (b : Int)) b a (rngD 0 (2 * ((Builtin.Int.intBits (b : Int) : Nat) : Int) + 3)) none none (bits_lt b) (by simp [rngD]; omega)
  simp [call, bodies, runD, b24, lockOf, rng1, gbits, backs, h2, e]
abbrev gc (t b : Int) : Int := (Nat.gcd t.natAbs b.toNat : Nat)
def pairOf (t b : Int) : Int × Int := (t / gc t b, b / gc t b)
theorem gc_pos {t b : Int} (h : 0 < b) : 0 < gc t b := by
  have : 0 < Nat.gcd t.natAbs b.toNat := Nat.gcd_pos_of_pos_right _ (by omega)
  show (0 : Int) < ((Nat.gcd t.natAbs b.toNat : Nat) : Int)
  omega
theorem gc_le {t b : Int} (h : 0 < b) : gc t b ≤ b := by
  have : Nat.gcd t.natAbs b.toNat ≤ b.toNat := Nat.gcd_le_right _ (by omega)
  show ((Nat.gcd t.natAbs b.toNat : Nat) : Int) ≤ b
  omega
theorem gabs_eq (t : Int) : gabs (.int t) = some (.int (t.natAbs : Nat)) := by
  show some (D.int (if t < 0 then -t else t)) = _
  congr 2
  split <;> omega
theorem pair_eq {n : Nat} {t b : Int} (h : 0 < b) (hb : sm b) : call (n + 2) 25 [KR.I t, KR.I b] = some (.ok (W (pairOf t b)), [KR.I t, KR.I b]) := by
  have hb2 : b.toNat < 2 ^ 200 := by unfold sm at hb; omega
  have e := law_common_eq (n := n) t.natAbs b.toNat hb2
  rw [Int.toNat_of_nonneg (Int.le_of_lt h)] at e
  have hg := gc_pos (t := t) h
  have hg2 : sm (gc t b) := by have := gc_le (t := t) h; unfold sm at *; omega
  have d1 : ∀ z : Int, gdiv (.int z) (.int (gc t b)) = some (.int (z / gc t b)) := fun z => gdiv_sm hg hg2
  rw [show n + 2 = (n + 1) + 1 from rfl, call]
  simp [bodies, runD, b25, lockOf, takeA, putA, gabs_eq, e, backs, d1, pairOf]
@[simp] theorem py_fr {x : Int × Int} : D.py (fr x) = some (.tuple [.int x.1, .int x.2]) := by
  unfold fr
  simp only [D.py, D.pys, Option.map_some]
theorem shaped_fr {x : Int × Int} : SeqAt.shaped (.tuple [.int x.1, .int x.2]) = true := by rfl
theorem eqv_fr {x y : Int × Int} : PyData.eqv (.tuple [.int x.1, .int x.2]) (.tuple [.int y.1, .int y.2]) = decide (x = y) := by
  simp [PyData.eqv, PyData.eqvAll, Prod.ext_iff]
  rfl
@[simp] theorem geq_fr {x y : Int × Int} : geq (fr x) (fr y) = some (.bl (decide (x = y))) := by
  show (deqD (fr x) (fr y)).map D.bl = _
  unfold deqD
  rw [py_fr, py_fr]
  dsimp only
  rw [if_pos ⟨shaped_fr, shaped_fr⟩, eqv_fr]
  rfl
theorem pys_fr (l : List (Int × Int)) : D.pys (l.map fr) = some (l.map fun x => .tuple [.int x.1, .int x.2]) := by
  induction l with
  | nil => rfl
  | cons x l ih => rw [List.map_cons, D.pys, py_fr, ih]; rfl
theorem shaped_frs (l : List (Int × Int)) : SeqAt.shaped (.list (l.map fun x => .tuple [.int x.1, .int x.2])) = true := by
  have h1 : PyData.canLayAll0 (l.map fun x => PyData.tuple [.int x.1, .int x.2]) = true := by
    induction l with
    | nil => rfl
    | cons x l ih => rw [List.map_cons, PyData.canLayAll0, ih]; rfl
  have h2 : PyData.depthAll (l.map fun x => PyData.tuple [.int x.1, .int x.2]) ≤ 1 := by
    induction l with
    | nil => decide
    | cons x l ih =>
      rw [List.map_cons, PyData.depthAll]
      have : PyData.depth (.tuple [.int x.1, .int x.2]) = 1 := rfl
      have := ih (by rw [List.map_cons, PyData.canLayAll0, Bool.and_eq_true] at h1; exact h1.2)
      omega
  unfold SeqAt.shaped
  rw [PyData.canLay0, h1, PyData.depth]
  simp
  omega
@[simp] theorem gin_fr {x : Int × Int} {l : List (Int × Int)} : gin (fr x) (.tup (l.map fr)) = some (.bl (decide (x ∈ l))) := by
  show (dinL (fr x) (l.map fr)).map D.bl = _
  unfold dinL
  rw [if_neg (by intro h; exact absurd h.1 Bool.false_ne_true), py_fr, pys_fr]
  dsimp only
  rw [if_pos ⟨shaped_fr, shaped_frs l⟩]
  refine congrArg (fun b => some (D.bl b)) ?_
  rw [List.any_map]
  induction l with
  | nil => rfl
  | cons y l ih =>
    rw [List.any_cons, ih]
    show (PyData.eqv (.tuple [.int y.1, .int y.2]) (.tuple [.int x.1, .int x.2]) || _) = _
    rw [eqv_fr]
    by_cases h : x = y
    · subst h; simp
    · have h' : ¬ y = x := fun e => h e.symm
      simp [h, h']
abbrev T (l : List (Int × Int)) : RV := .val (.tup (l.map fr))
structure Sm (x : Int × Int) : Prop where
  a : sm x.1
  b : sm x.2
abbrev OT (l : List (Int × Int)) : RV := .otup (l.map fr)
theorem law_with_eq {n : Nat} {x : Int × Int} {l : List (Int × Int)} (hx : Sm x) (hl : ∀ y ∈ l, Sm y) (hn : l.length ≤ 1000) :
    call (n + 2) 28 [T l, W x] = some (.ok (OT ((l.filter fun y => decide (lt y x)) ++ x :: (l.filter fun y => decide (lt x y)))), [T l, W x]) := by
  have e := lcomp_pure (it := its (getv 0)) (t := tstV (frz (ocall (call (n + 1) 27) 2 (cval (getv 4) (cval (getv 1) (KR.ret [])))))) (elt := getv 4) (v := 4) (ρ0 := [some (T l), some (W x), none, none, none]) (ρ := [some (T l), some (W x), none, none, none]) (xs := l.map fr)
    (p := fun d => match d with | .tup [.int a, .int b] => decide (lt (a, b) x) | _ => false) (f := id) (by simp) (by simp) (by rfl) (by simp; omega)
    (fun d hd => by
      obtain ⟨y, hy, rfl⟩ := List.mem_map.mp hd
      simp [takeA, putA, law_less_eq (hl y hy).a (hl y hy).b hx.a hx.b]
      rfl) (fun d hd _ => by simp)
  have e2 : (((l.map fr).filter fun d => match d with | .tup [.int a, .int b] => decide (lt (a, b) x) | _ => false).map id) = (l.filter fun y => decide (lt y x)).map fr := by
    rw [List.map_id, List.filter_map]
    rfl
  rw [e2] at e
  have h := lcomp_pure (it := its (getv 0)) (t := tstV (frz (ocall (call (n + 1) 27) 2 (cval (getv 1) (cval (getv 4) (KR.ret [])))))) (elt := getv 4) (v := 4) (ρ0 := [some (T l), some (W x), some (.olst ((l.filter fun y => decide (lt y x)).map fr)), none, none]) (ρ := [some (T l), some (W x), some (.olst ((l.filter fun y => decide (lt y x)).map fr)), none, none]) (xs := l.map fr)
    (p := fun d => match d with | .tup [.int a, .int b] => decide (lt x (a, b)) | _ => false) (f := id) (by simp) (by simp) (by rfl) (by simp; omega)
    (fun d hd => by
      obtain ⟨y, hy, rfl⟩ := List.mem_map.mp hd
      simp [takeA, putA, law_less_eq hx.a hx.b (hl y hy).a (hl y hy).b]
      rfl) (fun d hd _ => by simp)
  have h2 : (((l.map fr).filter fun d => match d with | .tup [.int a, .int b] => decide (lt x (a, b)) | _ => false).map id) = (l.filter fun y => decide (lt x y)).map fr := by
    rw [List.map_id, List.filter_map]
    rfl
  rw [h2] at h
  have l1 := List.length_filter_le (fun y => decide (lt y x)) l
  have l2 := List.length_filter_le (fun y => decide (lt x y)) l
  have g1 : gadd (.lst ((l.filter fun y => decide (lt y x)).map fr)) (.lst [fr x]) = some (.lst ((l.filter fun y => decide (lt y x)).map fr ++ [fr x])) := gadd_lst (by simp only [List.length_map, List.length_append, List.length_singleton]; omega)
  have g2 : gadd (.lst ((l.filter fun y => decide (lt y x)).map fr ++ [fr x])) (.lst ((l.filter fun y => decide (lt x y)).map fr)) = some (.lst (((l.filter fun y => decide (lt y x)).map fr ++ [fr x]) ++ (l.filter fun y => decide (lt x y)).map fr)) := gadd_lst (by simp only [List.length_map, List.length_append, List.length_singleton]; omega)
  rw [show n + 2 = (n + 1) + 1 from rfl, call]
  simp [bodies, runD, b28, lockOf, backs, e, h, g1, g2]
structure Fr (x : Int × Int) : Prop where
  a : x.1.natAbs ≤ 10 ^ 13
  b : x.2 ≤ 10 ^ 10
  p : 0 < x.2
  g : Nat.gcd x.1.natAbs x.2.toNat = 1
theorem Fr.sm {x : Int × Int} (h : Fr x) : Sm x := ⟨by have := h.a; unfold KR.sm; omega, by have := h.b; have := h.p; unfold KR.sm; omega⟩
theorem pairOf_one {t b : Int} (h : gc t b = 1) : pairOf t b = (t, b) := by
  unfold pairOf
  rw [h, Int.ediv_one, Int.ediv_one]
theorem gc_int {t b : Int} (h : 0 < b) : gc t b = (Int.gcd t b : Nat) := by
  show ((Nat.gcd t.natAbs b.toNat : Nat) : Int) = _
  unfold Int.gcd
  congr 2
  omega
theorem lt_irr {x : Int × Int} : ¬ lt x x := Int.lt_irrefl _
theorem lt_trans {x y z : Int × Int} (hx : 0 < x.2) (hy : 0 < y.2) (hz : 0 < z.2) (h : lt x y) (k : lt y z) : lt x z := by
  have h1 : x.1 * y.2 * z.2 < y.1 * x.2 * z.2 := Int.mul_lt_mul_of_pos_right h hz
  have h2 : y.1 * z.2 * x.2 < z.1 * y.2 * x.2 := Int.mul_lt_mul_of_pos_right k hx
  have e1 : x.1 * y.2 * z.2 = x.1 * z.2 * y.2 := by rw [Int.mul_assoc, Int.mul_comm y.2, ← Int.mul_assoc]
  have e2 : y.1 * x.2 * z.2 = y.1 * z.2 * x.2 := by rw [Int.mul_assoc, Int.mul_comm x.2, ← Int.mul_assoc]
  have e3 : z.1 * y.2 * x.2 = z.1 * x.2 * y.2 := by rw [Int.mul_assoc, Int.mul_comm y.2, ← Int.mul_assoc]
  rw [e1, e2] at h1
  rw [e3] at h2
  exact Int.lt_of_mul_lt_mul_right (Int.lt_trans h1 h2) (Int.le_of_lt hy)
theorem lt_asymm {x y : Int × Int} (h : lt x y) : ¬ lt y x := fun k => Int.lt_asymm h k
theorem lt_tri {x y : Int × Int} (hx : Fr x) (hy : Fr y) (h : ¬ y = x) (k : ¬ lt x y) : lt y x := by
  by_cases q : lt y x
  · exact q
  · exfalso
    have e : x.1 * y.2 = y.1 * x.2 := by
      have k' : ¬ x.1 * y.2 < y.1 * x.2 := k
      have q' : ¬ y.1 * x.2 < x.1 * y.2 := q
      omega
    have en : x.1.natAbs * y.2.toNat = y.1.natAbs * x.2.toNat := by
      have e2 := congrArg Int.natAbs e
      rw [Int.natAbs_mul, Int.natAbs_mul] at e2
      have a1 : x.2.natAbs = x.2.toNat := by have := hx.p; omega
      have a2 : y.2.natAbs = y.2.toNat := by have := hy.p; omega
      rwa [a1, a2] at e2
    have d1 : x.2.toNat ∣ y.2.toNat := by
      have c : Nat.Coprime x.2.toNat x.1.natAbs := by rw [Nat.coprime_comm]; exact hx.g
      exact c.dvd_of_dvd_mul_left (by rw [en]; exact Nat.dvd_mul_left _ _)
    have d2 : y.2.toNat ∣ x.2.toNat := by
      have c : Nat.Coprime y.2.toNat y.1.natAbs := by rw [Nat.coprime_comm]; exact hy.g
      exact c.dvd_of_dvd_mul_left (by rw [← en]; exact Nat.dvd_mul_left _ _)
    have e3 := Nat.dvd_antisymm d1 d2
    have e4 : x.2 = y.2 := by have := hx.p; have := hy.p; omega
    rw [e4] at e
    have e5 := Int.eq_of_mul_eq_mul_right (by have := hy.p; omega) e
    exact h (Prod.ext e5.symm e4.symm)
structure Good (l : List (Int × Int)) : Prop where
  f : ∀ y ∈ l, Fr y
  s : l.Pairwise lt
theorem pair_pos {t b : Int} (hb : 0 < b) : 0 < (pairOf t b).2 := by
  refine Int.ediv_pos_of_pos_of_dvd hb (Int.le_of_lt (gc_pos hb)) ?_
  rw [gc_int hb]
  exact Int.gcd_dvd_right ..
theorem pair_fr {t b : Int} (hb : 0 < b) (h1 : t.natAbs ≤ 10 ^ 13) (h2 : b ≤ 10 ^ 10) : Fr (pairOf t b) := by
  have hg := gc_pos (t := t) hb
  have hn : 0 < Nat.gcd t.natAbs b.toNat := Nat.gcd_pos_of_pos_right _ (by omega)
  have e1 : (t / gc t b).natAbs = t.natAbs / Nat.gcd t.natAbs b.toNat := by
    rw [Int.natAbs_ediv_of_dvd]
    · rfl
    · rw [gc_int hb]; exact Int.gcd_dvd_left ..
  have e2 : (b / gc t b).toNat = b.toNat / Nat.gcd t.natAbs b.toNat := by
    have : b / gc t b = ((b.toNat / Nat.gcd t.natAbs b.toNat : Nat) : Int) := by
      rw [Int.natCast_ediv, Int.toNat_of_nonneg (Int.le_of_lt hb)]
    rw [this]
    rfl
  refine ⟨?_, ?_, pair_pos hb, ?_⟩
  · show (t / gc t b).natAbs ≤ _
    rw [e1]
    exact Nat.le_trans (Nat.div_le_self _ _) h1
  · show b / gc t b ≤ _
    have : b / gc t b ≤ b := Int.ediv_le_self _ (Int.le_of_lt hb)
    omega
  · show Nat.gcd (t / gc t b).natAbs (b / gc t b).toNat = 1
    rw [e1, e2]
    exact Nat.coprime_div_gcd_div_gcd hn
theorem with_good {l : List (Int × Int)} {x : Int × Int} (G : Good l) (hx : Fr x) : Good ((l.filter fun y => decide (lt y x)) ++ x :: (l.filter fun y => decide (lt x y))) := by
  constructor
  · intro y hy
    rcases List.mem_append.mp hy with h | h
    · exact G.f y (List.mem_filter.mp h).1
    · rcases List.mem_cons.mp h with h | h
      · rw [h]; exact hx
      · exact G.f y (List.mem_filter.mp h).1
  · refine List.pairwise_append.mpr ⟨G.s.filter _, List.pairwise_cons.mpr ⟨fun y hy => by simpa using (List.mem_filter.mp hy).2, G.s.filter _⟩, fun a ha b hb => ?_⟩
    have h1 : lt a x := by simpa using (List.mem_filter.mp ha).2
    rcases List.mem_cons.mp hb with h | h
    · rw [h]; exact h1
    · exact lt_trans (G.f a (List.mem_filter.mp ha).1).p hx.p (G.f b (List.mem_filter.mp h).1).p h1 (by simpa using (List.mem_filter.mp h).2)
theorem mul_r {a b : Int} (h : -(2 ^ 64) < b ∧ b < 2 ^ 64) : gmul (.int a) (.int b) = some (.int (a * b)) := if_pos (.inr (.inr h))
theorem div_lit {a b : Int} (h : 0 < b) (h2 : b < 2 ^ 64) : gdiv (.int a) (.int b) = some (.int (a / b)) := gdiv_sm h (by unfold KR.sm; omega)
structure Tp (t : List Int) : Prop where
  p : ∀ z ∈ t, 0 ≤ z ∧ z < 2147483629
theorem Tp.add {t : List Int} (h : Tp t) {z : Int} (h0 : 0 ≤ z) (h1 : z < 2147483629) : Tp (t ++ [z]) := ⟨fun y hy => by
  rcases List.mem_append.mp hy with q | q
  · exact h.p y q
  · rw [List.mem_singleton] at q
    rw [q]
    exact ⟨h0, h1⟩⟩
abbrev ints' (t : List Int) : List D := t.map .int
abbrev B40 : S := (sif (tst (KR.bin ggt (getv 3) (KR.ret (.int 0)))) (seq (sdo (apnd 1 (KR.bin gmod (cal (f1 gint) (acons (getv 3) (KR.ret []))) (KR.ret (.int 1000)))))
  (sset 3 (val (KR.bin gdiv (getv 3) (KR.ret (.int 1000)))))) skip)
theorem for40 {s : Option RV} : ∀ (xs : List D) (t : List Int) (z : Int) (c k f : Option RV), Tp t → 0 ≤ z → t.length + xs.length ≤ 100000 → ∃ (t' : List Int) (z' : Int) (k' : Option RV), Tp t' ∧ t'.length ≤ t.length + xs.length ∧
    forL (gnm 4) B40 xs [] [s, some (.olst (ints' t)), c, some (KR.I z), k, f] = some (.ok .nx, [s, some (.olst (ints' t')), c, some (KR.I z'), k', f])
  | [], t, z, c, k, f, h, _, _ => ⟨t, z, k, h, Nat.le_refl _, rfl⟩
  | x :: xs, t, z, c, k, f, h, h0, hl => by
    have hl' : t.length + (xs.length + 1) ≤ 100000 := hl
    by_cases q : 0 < z
    · have e2 := div_lit (a := z) (b := 1000) (by decide) (by decide)
      have e3 : gmod (.int z) (.int 1000) = some (.int (z % 1000)) := gmod_pos (by decide)
      obtain ⟨t', z', k', h1, h2, h3⟩ := for40 (s := s) xs (t ++ [z % 1000]) (z / 1000) c (some (.val x)) f (h.add (by omega) (by omega)) (by omega) (by rw [List.length_append, List.length_singleton]; omega)
      refine ⟨t', z', k', h1, by rw [List.length_append, List.length_singleton] at h2; show _ ≤ t.length + (xs.length + 1); omega, ?_⟩
      rw [← h3]
      refine forL_nx (ρ1 := [s, some (.olst (ints' t)), c, some (KR.I z), some (.val x), f]) (by simp) ?_
      have hs : t.length < 16777216 := by omega
      simp [q, e2, e3, hs]
    · obtain ⟨t', z', k', h1, h2, h3⟩ := for40 (s := s) xs t z c (some (.val x)) f h h0 (by omega)
      refine ⟨t', z', k', h1, by show _ ≤ t.length + (xs.length + 1); omega, ?_⟩
      rw [← h3]
      refine forL_nx (ρ1 := [s, some (.olst (ints' t)), c, some (KR.I z), some (.val x), f]) (by simp) ?_
      simp [q]
abbrev Bt3 : S := (seq (sset 5 (val (KR.bin gmod (cal (f1 gint) (acons (KR.bin gadd (KR.bin gadd (KR.bin gmul (getv 3) (KR.ret (.int 48271))) (KR.bin gmul (getv 4) (KR.ret (.int 40503)))) (KR.ret (.int 11))) (KR.ret []))) (KR.ret (.int 2147483629)))))
  (sdo (apnd 1 (KR.bin gmod (cal (f1 gint) (acons (KR.bin gadd (KR.bin gmul (getv 5) (KR.ret (.int 69621))) (KR.bin gdiv (getv 5) (KR.ret (.int 65536)))) (KR.ret []))) (KR.ret (.int 2147483629))))))
theorem for3 {s : Option RV} : ∀ (xs : List Int) (t : List Int) (z : Int) (c k f : Option RV), Tp t → t.length + xs.length ≤ 100000 → ∃ (t' : List Int) (k' f' : Option RV), Tp t' ∧ t'.length ≤ t.length + xs.length ∧
    forL (gnm 4) Bt3 (ints' xs) [] [s, some (.olst (ints' t)), c, some (KR.I z), k, f] = some (.ok .nx, [s, some (.olst (ints' t')), c, some (KR.I z), k', f'])
  | [], t, z, c, k, f, h, _ => ⟨t, k, f, h, Nat.le_refl _, rfl⟩
  | x :: xs, t, z, c, k, f, h, hl => by
    have hl' : t.length + (xs.length + 1) ≤ 100000 := hl
    have m1 : ∀ a : Int, gmul (.int a) (.int 48271) = some (.int (a * 48271)) := fun a => mul_r (by decide)
    have m2 : ∀ a : Int, gmul (.int a) (.int 40503) = some (.int (a * 40503)) := fun a => mul_r (by decide)
    have m3 : ∀ a : Int, gmul (.int a) (.int 69621) = some (.int (a * 69621)) := fun a => mul_r (by decide)
    have m4 : ∀ a : Int, gdiv (.int a) (.int 65536) = some (.int (a / 65536)) := fun a => div_lit (by decide) (by decide)
    have m5 : ∀ a : Int, gmod (.int a) (.int 2147483629) = some (.int (a % 2147483629)) := fun a => gmod_pos (by decide)
    generalize hv : (z * 48271 + x * 40503 + 11) % 2147483629 = v at *
    generalize hw : (v * 69621 + v / 65536) % 2147483629 = w at *
    obtain ⟨t', k', f', h1, h2, h3⟩ := for3 (s := s) xs (t ++ [w]) z c (some (KR.I x)) (some (KR.I v)) (h.add (by omega) (by omega)) (by rw [List.length_append, List.length_singleton]; omega)
    refine ⟨t', k', f', h1, by rw [List.length_append, List.length_singleton] at h2; show _ ≤ t.length + (xs.length + 1); omega, ?_⟩
    rw [← h3]
    refine forL_nx (ρ1 := [s, some (.olst (ints' t)), c, some (KR.I z), some (KR.I x), f]) (by simp) ?_
    have hs : t.length < 16777216 := by omega
    simp [m1, m2, m3, m4, m5, hv, hw, hs]
theorem rng_ints (j : Int) : rngD 0 j = ints' ((List.range j.toNat).map fun (i : Nat) => (i : Int)) := by
  show (List.range (j - 0).toNat).map _ = ((List.range j.toNat).map _).map _
  rw [List.map_map, Int.sub_zero]
  apply List.map_congr_left
  intro i _
  show D.int (0 + (i : Int)) = D.int (i : Int)
  rw [Int.zero_add]
abbrev Btape : S := (seq (sset 3 (val (KR.bin gmul (KR.ret (.int 2)) (cal (f1 gint) (acons (getv 2) (KR.ret []))))))
  (seq (sif (tst (KR.bin glt (getv 3) (KR.ret (.int 0)))) (sset 3 (val (KR.bin gsub (una gneg (KR.ret (.int 1))) (getv 3)))) skip)
  (sif (tst (KR.bin gge (getv 3) (KR.bin gpow (KR.ret (.int 10)) (KR.ret (.int 18))))) (sfor (gnm 4) (icl rng1 (acons (KR.ret (.int 40)) (KR.ret []))) B40) (sfor (gnm 4) (icl rng1 (acons (KR.ret (.int 3)) (KR.ret []))) Bt3))))
theorem tape_for {s : Option RV} : ∀ (xs : List Int) (t : List Int) (c z k f : Option RV), Tp t → t.length + 40 * xs.length ≤ 90000 → ∃ (t' : List Int) (c' z' k' f' : Option RV), Tp t' ∧ t'.length ≤ t.length + 40 * xs.length ∧
    forL (gnm 2) Btape (ints' xs) [] [s, some (.olst (ints' t)), c, z, k, f] = some (.ok .nx, [s, some (.olst (ints' t')), c', z', k', f'])
  | [], t, c, z, k, f, h, _ => ⟨t, c, z, k, f, h, Nat.le_refl _, rfl⟩
  | x :: xs, t, c, z, k, f, h, hl => by
    have hl' : t.length + 40 * (xs.length + 1) ≤ 90000 := hl
    -- what stands in the number
    obtain ⟨v, hv0, hv⟩ : ∃ v : Int, 0 ≤ v ∧ v = if 2 * x < 0 then -1 - 2 * x else 2 * x := ⟨_, by split <;> omega, rfl⟩
    have p1 : gpow (.int 10) (.int 18) = some (.int 1000000000000000000) := by
      unfold gpow
      dsimp only
      rw [if_pos (by decide)]
      rfl
    have go : ∃ (t' : List Int) (z' k' f' : Option RV), Tp t' ∧ t'.length ≤ t.length + 40 ∧ Btape [] [s, some (.olst (ints' t)), some (KR.I x), z, k, f] = some (.ok .nx, [s, some (.olst (ints' t')), some (KR.I x), z', k', f']) := by
      obtain ⟨R40, l40, r40⟩ : ∃ R : List Int, R.length = 40 ∧ rng1 [.int 40] = some (ints' R) := ⟨(List.range (40 : Int).toNat).map fun (i : Nat) => (i : Int), by rw [List.length_map, List.length_range]; rfl, by rw [rng1, if_pos (by unfold okR; decide), rng_ints]⟩
      obtain ⟨R3, l3, r3⟩ : ∃ R : List Int, R.length = 3 ∧ rng1 [.int 3] = some (ints' R) := ⟨(List.range (3 : Int).toNat).map fun (i : Nat) => (i : Int), by rw [List.length_map, List.length_range]; rfl, by rw [rng1, if_pos (by unfold okR; decide), rng_ints]⟩
      by_cases q : 1000000000000000000 ≤ v
      · obtain ⟨t', z', k', h1, h2, h3⟩ := for40 (s := s) (ints' R40) t v (some (KR.I x)) k f h hv0 (by simp; omega)
        refine ⟨t', some (KR.I z'), k', f, h1, by simp at h2; omega, ?_⟩
        by_cases q2 : 2 * x < 0
        · have e : v = -1 - 2 * x := by rw [hv, if_pos q2]
          rw [e] at q h3
          simp [q2, p1, q, r40, h3]
        · have e : v = 2 * x := by rw [hv, if_neg q2]
          rw [e] at q h3
          simp [q2, p1, q, r40, h3]
      · obtain ⟨t', k', f', h1, h2, h3⟩ := for3 (s := s) R3 t v (some (KR.I x)) k f h (by omega)
        refine ⟨t', some (KR.I v), k', f', h1, by omega, ?_⟩
        by_cases q2 : 2 * x < 0
        · have e : v = -1 - 2 * x := by rw [hv, if_pos q2]
          rw [e] at q h3 ⊢
          simp [q2, p1, q, r3, h3]
        · have e : v = 2 * x := by rw [hv, if_neg q2]
          rw [e] at q h3 ⊢
          simp [q2, p1, q, r3, h3]
    obtain ⟨t1, z1, k1, f1, a1, a2, a3⟩ := go
    obtain ⟨t', c', z', k', f', h1, h2, h3⟩ := tape_for (s := s) xs t1 (some (KR.I x)) z1 k1 f1 a1 (by omega)
    refine ⟨t', c', z', k', f', h1, by show _ ≤ t.length + 40 * (xs.length + 1); omega, ?_⟩
    rw [← h3]
    exact forL_nx (ρ1 := [s, some (.olst (ints' t)), some (KR.I x), z, k, f]) (by simp) a3
theorem tape_eq {n : Nat} {ns : List Int} (h : ns.length ≤ 63) : ∃ t : List Int, Tp t ∧ t.length ≤ 2520 ∧ call (n + 1) 20 [.val (.lsr (ints' ns))] = some (.ok (.val (.lst (ints' t))), [.val (.lsr (ints' ns))]) := by
  obtain ⟨t, c, z, k, f, h1, h2, h3⟩ := tape_for (s := some (.val (.lsr (ints' ns)))) ns [] none none none none ⟨fun z h => by cases h⟩ (by simp; omega)
  refine ⟨t, h1, by simp at h2; omega, ?_⟩
  have h3' : forL (gnm 2) Btape (ints' ns) [] [some (.val (.lsr (ints' ns))), some (.olst []), none, none, none, none] = _ := h3
  simp [call, bodies, runD, b20, lockOf, backs, h3']
theorem at_int {t : List Int} {i : Int} (h0 : 0 ≤ i) (h : i < t.length) : ∃ z ∈ t, atI (ints' t) i = some (.int z) := by
  refine ⟨t[i.toNat]'(by omega), List.getElem_mem _, ?_⟩
  rw [atI_int h0 (by simpa using h)]
  simp
abbrev TL (t : List Int) : D := .lst (ints' t)
theorem draw_eq {n : Nat} {t : List Int} {at' m : Int} (ht : Tp t) (hl : t.length ≤ 2520) (h0 : 0 ≤ at') (h1 : at' ≤ 1000000) (hm : 0 < m) : ∃ r : Int, 0 ≤ r ∧ r < m ∧ call (n + 1) 21 [.val (TL t), KR.I at', KR.I m] = some (.ok (KR.I r), [.val (TL t), KR.I at', KR.I m]) := by
  have gm : ∀ z : Int, gmod (.int z) (.int m) = some (.int (z % m)) := fun z => gmod_pos hm
  have g5 : ∀ z : Int, gmod (.int z) (.int 65521) = some (.int (z % 65521)) := fun z => gmod_pos (by decide)
  have m1 : ∀ a : Int, gmul (.int a) (.int 7919) = some (.int (a * 7919)) := fun a => mul_r (by decide)
  have m2 : ∀ a : Int, gmul (.int a) (.int 104729) = some (.int (a * 104729)) := fun a => mul_r (by decide)
  have m3 : ∀ a : Int, gmul (.int a) (.int (at' + 3)) = some (.int (a * (at' + 3))) := fun a => mul_r (by omega)
  by_cases q : at' < t.length
  · obtain ⟨z, hz, e⟩ := at_int h0 q
    refine ⟨z % m, Int.emod_nonneg _ (by omega), Int.emod_lt_of_pos _ hm, ?_⟩
    simp [call, bodies, runD, b21, lockOf, backs, q, e, gm]
  · by_cases q2 : 0 < t.length
    · have hp : (0 : Int) < t.length := by omega
      have g4 : gmod (.int at') (.int t.length) = some (.int (at' % t.length)) := gmod_pos hp
      obtain ⟨z, hz, e⟩ := at_int (t := t) (i := at' % t.length) (Int.emod_nonneg _ (by omega)) (Int.emod_lt_of_pos _ hp)
      refine ⟨((z + at') * (at' + 3) * 7919 + at' * 104729) % 65521 % m, Int.emod_nonneg _ (by omega), Int.emod_lt_of_pos _ hm, ?_⟩
      simp [call, bodies, runD, b21, lockOf, backs, q, q2, g4, e, gm, g5, m1, m2, m3]
    · have q3 : t = [] := List.eq_nil_of_length_eq_zero (by omega)
      have q4 : ¬ at' < 0 := by omega
      refine ⟨((1 + at') * (at' + 3) * 7919 + at' * 104729) % 65521 % m, Int.emod_nonneg _ (by omega), Int.emod_lt_of_pos _ hm, ?_⟩
      simp [call, bodies, runD, b21, lockOf, backs, q3, q4, gm, g5, m1, m2, m3]
abbrev St (t : List Int) (k : Int) : RV := .olst [TL t, .int k]
theorem take_eq {n : Nat} {t : List Int} {k m : Int} (ht : Tp t) (hl : t.length ≤ 2520) (h0 : 0 ≤ k) (h1 : k < 1000000) (hm : 0 < m) : ∃ r : Int, 0 ≤ r ∧ r < m ∧ call (n + 2) 23 [St t k, KR.I m] = some (.ok (KR.I r), [St t (k + 1), KR.I m]) := by
  obtain ⟨r, r0, r1, e⟩ := draw_eq (n := n) (at' := k + 1) ht hl (by omega) (by omega) hm
  refine ⟨r, r0, r1, ?_⟩
  have i1 : ixN 2 1 = some 1 := rfl
  rw [show n + 2 = (n + 1) + 1 from rfl, call]
  simp [bodies, runD, b23, lockOf, backs, takeA, putA, i1, e]
theorem number_eq {n : Nat} {t : List Int} {k : Int} (ht : Tp t) (hl : t.length ≤ 2520) (h0 : 0 ≤ k) (h1 : k < 990000) : ∃ (x : Int × Int) (k' : Int), Fr x ∧ k < k' ∧ k' ≤ k + 4 ∧ call (n + 3) 26 [St t k] = some (.ok (W x), [St t k']) := by
  obtain ⟨r, r0, r1, e⟩ := take_eq (n := n) (m := 14) ht hl h0 (by omega) (by decide)
  rw [show n + 3 = (n + 2) + 1 from rfl, call]
  have pw : ∀ (a : Int) (m : Int), 0 ≤ a → a < 1000 → 0 ≤ m → m ≤ 4 → gpow (.int a) (.int m) = some (.int (a ^ m.toNat)) := fun a m ha hb hc hd => if_pos ⟨hc, by omega, by omega⟩
  have bd : ∀ (a : Int) (m : Nat), 0 ≤ a → a < 1000 → 0 ≤ a ^ m ∧ a ^ m ≤ ((1000 ^ m : Nat) : Int) := fun a m ha hb => by
    obtain ⟨j, rfl⟩ := Int.eq_ofNat_of_zero_le ha
    rw [← Int.natCast_pow]
    exact ⟨Int.natCast_nonneg _, Int.ofNat_le.mpr (Nat.pow_le_pow_left (by omega) m)⟩
  by_cases q : r = 0
  · obtain ⟨a, a0, a1, e1⟩ := take_eq (n := n) (k := k + 1) (m := 1000) ht hl (by omega) (by omega) (by decide)
    obtain ⟨b, b0, b1, e2⟩ := take_eq (n := n) (k := k + 1 + 1) (m := 1000) ht hl (by omega) (by omega) (by decide)
    obtain ⟨c, c0, c1, e3⟩ := take_eq (n := n) (k := k + 1 + 1 + 1) (m := 1000) ht hl (by omega) (by omega) (by decide)
    have p1 := pw a 4 a0 a1 (by decide) (by decide)
    have p2 := pw b 3 b0 b1 (by decide) (by decide)
    have p3 := pw c 3 c0 c1 (by decide) (by decide)
    have s1 := bd a 4 a0 a1
    have s2 := bd b 3 b0 b1
    have s3 := bd c 3 c0 c1
    have u4 : (4 : Int).toNat = 4 := rfl
    have u3 : (3 : Int).toNat = 3 := rfl
    rw [u4] at p1
    rw [u3] at p2 p3
    generalize a ^ 4 = a4 at *
    generalize b ^ 3 = b3' at *
    generalize c ^ 3 = c3 at *
    have z := pair_eq (n := n) (t := a4 - b3') (b := 1 + c3) (by omega) (by unfold KR.sm; omega)
    refine ⟨pairOf (a4 - b3') (1 + c3), k + 1 + 1 + 1 + 1, pair_fr (by omega) (by omega) (by omega), by omega, by omega, ?_⟩
    simp [bodies, runD, b26, lockOf, backs, takeA, putA, e, q, e1, e2, e3, p1, p2, p3, z]
  · obtain ⟨a, a0, a1, e1⟩ := take_eq (n := n) (k := k + 1) (m := 9) ht hl (by omega) (by omega) (by decide)
    obtain ⟨b, b0, b1, e2⟩ := take_eq (n := n) (k := k + 1 + 1) (m := 3) ht hl (by omega) (by omega) (by decide)
    have z := pair_eq (n := n) (t := a - 4) (b := 1 + b) (by omega) (by unfold KR.sm; omega)
    refine ⟨pairOf (a - 4) (1 + b), k + 1 + 1 + 1, pair_fr (by omega) (by omega) (by omega), by omega, by omega, ?_⟩
    simp [bodies, runD, b26, lockOf, backs, takeA, putA, e, q, e1, e2, z]
theorem filt_len {x : Int × Int} (l : List (Int × Int)) : (l.filter fun y => decide (lt y x)).length + (l.filter fun y => decide (lt x y)).length ≤ l.length := by
  induction l with
  | nil => exact Nat.le_refl _
  | cons y l ih =>
    by_cases h : lt y x
    · rw [List.filter_cons_of_pos (by simpa using h), List.filter_cons_of_neg (by simpa using lt_asymm h), List.length_cons, List.length_cons]
      omega
    · rw [List.filter_cons_of_neg (by simpa using h)]
      by_cases k : lt x y
      · rw [List.filter_cons_of_pos (by simpa using k), List.length_cons, List.length_cons]
        omega
      · rw [List.filter_cons_of_neg (by simpa using k), List.length_cons]
        omega
end My

set_option Elab.async false
set_option linter.all false
set_option maxRecDepth 100000
namespace My
open PySem L2 KR
abbrev cp (x : Str) : List Nat := x.cps.toList
def letter (c : Nat) : Prop := c ∈ cp ("abcdefghijklmnopqrstuvwxyz" : Str)
instance (c : Nat) : Decidable (letter c) := by unfold letter; infer_instance
abbrev NS (names : List Str) : RV := .val (.tup (names.map .str))
structure Nm (ns : List Str) : Prop where
  w : ∀ x ∈ ns, ∀ c ∈ cp x, letter c
  l : ∀ x ∈ ns, (cp x).length ≤ 8
  o : ∀ x ∈ ns, x ∉ (["other", "x"] : List Str)
  p : 0 < ns.length
  q : ns.length ≤ 3
inductive Q where
  | now
  | nothing
  | is (x : Str)
  | one (w : Str) (a : Q)
  | two (w : Str) (a b : Q)
  | iff (a b c : Q)
  | num (w : Str) (j : Nat) (a : Q)
  | circ (i j : Nat) (a : Q)
def Q.toD : Q → D
  | .now => .tup [.str "now"]
  | .nothing => .tup [.str "nothing"]
  | .is x => .tup [.str "is", .str x]
  | .one w a => .tup [.str w, a.toD]
  | .two w a b => .tup [.str w, a.toD, b.toD]
  | .iff a b c => .tup [.str "if", a.toD, b.toD, c.toD]
  | .num w j a => .tup [.str w, .int j, a.toD]
  | .circ i j a => .tup [.str "circle", .int i, .int j, a.toD]
def Q.ok : Nat → Q → Prop
  | 0, _ => False
  | _ + 1, .now => True
  | _ + 1, .nothing => True
  | _ + 1, .is _ => True
  | m + 1, .one w a => (w = "last" ∨ w = "first" ∨ w = "before") ∧ a.ok m
  | m + 1, .two w a b => (w = "less" ∨ w = "same" ∨ w = "since" ∨ w = "among") ∧ a.ok m ∧ b.ok m
  | m + 1, .iff a b c => a.ok m ∧ b.ok m ∧ c.ok m
  | m + 1, .num w j a => (((w = "great" ∨ w = "least") ∧ 1 ≤ j ∧ j ≤ 2) ∨ (w = "times" ∧ 1 ≤ j ∧ j ≤ 3)) ∧ a.ok m
  | m + 1, .circ i j a => (i = 2 ∨ i = 3) ∧ j < i ∧ a.ok m
theorem Q.up : ∀ (m : Nat) (q : Q), q.ok m → q.ok (m + 1)
  | 0, _, h => h.elim
  | _ + 1, .now, _ => trivial
  | _ + 1, .nothing, _ => trivial
  | _ + 1, .is _, _ => trivial
  | m + 1, .one _ a, h => ⟨h.1, Q.up m a h.2⟩
  | m + 1, .two _ a b, h => ⟨h.1, Q.up m a h.2.1, Q.up m b h.2.2⟩
  | m + 1, .iff a b c, h => ⟨Q.up m a h.1, Q.up m b h.2.1, Q.up m c h.2.2⟩
  | m + 1, .num _ _ a, h => ⟨h.1, Q.up m a h.2⟩
  | m + 1, .circ _ _ a, h => ⟨h.1, h.2.1, Q.up m a h.2.2⟩
theorem Q.le {m m' : Nat} (h : m ≤ m') {q : Q} (k : q.ok m) : q.ok m' := by
  induction h with
  | refl => exact k
  | step _ ih => exact Q.up _ _ ih
def Tr (ns : List Str) (m : Nat) (d : D) : Prop := ∃ q : Q, q.ok m ∧ d = q.toD
theorem Tr.le {ns : List Str} {m m' : Nat} {d : D} (h : m ≤ m') (k : Tr ns m d) : Tr ns m' d := by obtain ⟨q, a, b⟩ := k; exact ⟨q, Q.le h a, b⟩
theorem tr_leaf {ns : List Str} {w : Str} (h : w = "now" ∨ w = "nothing") : Tr ns 1 (.tup [.str w]) := by
  rcases h with rfl | rfl
  · exact ⟨.now, trivial, rfl⟩
  · exact ⟨.nothing, trivial, rfl⟩
theorem tr_is {ns : List Str} {x : Str} (_ : x ∈ ns) (_ : ∀ x ∈ ns, ∀ c ∈ cp x, letter c) : Tr ns 1 (.tup [.str "is", .str x]) := ⟨.is x, trivial, rfl⟩
theorem tr_one {ns : List Str} {m : Nat} {w : Str} (h : w = "last" ∨ w = "first" ∨ w = "before") {d : D} (k : Tr ns m d) : Tr ns (m + 1) (.tup [.str w, d]) := by
  obtain ⟨q, a, rfl⟩ := k
  exact ⟨.one w q, ⟨h, a⟩, rfl⟩
theorem tr_two {ns : List Str} {m : Nat} {w : Str} (h : w = "less" ∨ w = "same" ∨ w = "since" ∨ w = "among") {d e : D} (k : Tr ns m d) (j : Tr ns m e) : Tr ns (m + 1) (.tup [.str w, d, e]) := by
  obtain ⟨q, a, rfl⟩ := k
  obtain ⟨r, b, rfl⟩ := j
  exact ⟨.two w q r, ⟨h, a, b⟩, rfl⟩
theorem tr_if {ns : List Str} {m : Nat} {d e f : D} (k : Tr ns m d) (j : Tr ns m e) (i : Tr ns m f) : Tr ns (m + 1) (.tup [.str "if", d, e, f]) := by
  obtain ⟨q, a, rfl⟩ := k
  obtain ⟨r, b, rfl⟩ := j
  obtain ⟨s, c, rfl⟩ := i
  exact ⟨.iff q r s, ⟨a, b, c⟩, rfl⟩
theorem tr_num {ns : List Str} {m : Nat} {w : Str} {j : Nat} (h : ((w = "great" ∨ w = "least") ∧ 1 ≤ j ∧ j ≤ 2) ∨ (w = "times" ∧ 1 ≤ j ∧ j ≤ 3)) {d : D} (k : Tr ns m d) : Tr ns (m + 1) (.tup [.str w, .int j, d]) := by
  obtain ⟨q, a, rfl⟩ := k
  exact ⟨.num w j q, ⟨h, a⟩, rfl⟩
theorem tr_circle {ns : List Str} {m i j : Nat} (h : i = 2 ∨ i = 3) (hj : j < i) {d : D} (k : Tr ns m d) : Tr ns (m + 1) (.tup [.str "circle", .int i, .int j, d]) := by
  obtain ⟨q, a, rfl⟩ := k
  exact ⟨.circ i j q, ⟨h, hj, a⟩, rfl⟩
theorem compL_step {t : M Bool} {elt : M D} {v N : Nat} {x y : D} {xs acc : List D} {ρ ρ1 ρ3 : KR.Env} (hv : v < ρ.length) (hN : ρ.length = N) (ht : t (ρ.set v (some (.val x))) = some (.ok true, ρ1)) (he : elt ρ1 = some (.ok y, ρ3)) (hk : okW ρ3 [v] = true) :
    compL (gnm v) t elt [v] N (x :: xs) acc ρ = compL (gnm v) t elt [v] N xs (acc ++ [y]) (ρ3.set v none) := by
  have hg : gnm v x (oth N [v]) ρ = some (ρ.set v (some (.val x))) := if_pos ⟨hv, oth_not⟩
  rw [compL, hg]
  dsimp only
  rw [if_pos (by rw [List.length_set, hN]), ht]
  dsimp only
  rw [he]
  dsimp only
  rw [if_pos hk]
  rfl
abbrev menu : List D := [.str "a", .str "now", .str "tick", .str "zz", .str "b", .str "is", .str "abcdefgh"]
abbrev menuS : List Str := ["a", "now", "tick", "zz", "b", "is", "abcdefgh"]
theorem menu_ok : ∀ x ∈ menuS, (∀ c ∈ cp x, letter c) ∧ (cp x).length ≤ 8 ∧ x ∉ (["other", "x"] : List Str) := by decide +kernel
theorem menu_at {f k : Int} : ∃ x ∈ menuS, gix (.lst menu) (.int ((f + 3 * k) % 7)) = some (.str x) := by
  have h0 : 0 ≤ (f + 3 * k) % 7 := Int.emod_nonneg _ (by decide)
  have h1 : (f + 3 * k) % 7 < 7 := Int.emod_lt_of_pos _ (by decide)
  generalize (f + 3 * k) % 7 = z at *
  rcases (show z = 0 ∨ z = 1 ∨ z = 2 ∨ z = 3 ∨ z = 4 ∨ z = 5 ∨ z = 6 by omega) with rfl | rfl | rfl | rfl | rfl | rfl | rfl
  · exact ⟨"a", by simp, rfl⟩
  · exact ⟨"now", by simp, rfl⟩
  · exact ⟨"tick", by simp, rfl⟩
  · exact ⟨"zz", by simp, rfl⟩
  · exact ⟨"b", by simp, rfl⟩
  · exact ⟨"is", by simp, rfl⟩
  · exact ⟨"abcdefgh", by simp, rfl⟩
abbrev EN : M D := (KR.bin gix (getv 1) (KR.bin gmod (cal (f1 gint) (acons (KR.bin gadd (getv 2) (KR.bin gmul (KR.ret (.int 3)) (getv 3))) (KR.ret []))) (KR.ret (.int 7))))
theorem names_comp {s : RV} {f : Int} : ∀ (xs : List Int) (r : RV) (acc : List Str), (r = .olst menu ∨ r = .val (.lst menu)) → (∀ x ∈ acc, x ∈ menuS) → ∃ (ns : List Str) (r' : RV), (r' = .olst menu ∨ r' = .val (.lst menu)) ∧ (∀ x ∈ ns, x ∈ menuS) ∧ ns.length = acc.length + xs.length ∧
    compL (gnm 3) (KR.ret true) EN [3] 4 (ints' xs) (acc.map .str) [some s, some r, some (KR.I f), none] = some (ns.map .str, [some s, some r', some (KR.I f), none])
  | [], r, acc, hr, ha => ⟨acc, r, hr, ha, rfl, by simp [compL]⟩
  | k :: xs, r, acc, hr, ha => by
    obtain ⟨x, hx, e⟩ := menu_at (f := f) (k := k)
    obtain ⟨ns, r', h1, h2, h3, h4⟩ := names_comp (s := s) (f := f) xs (.val (.lst menu)) (acc ++ [x]) (.inr rfl) fun y hy => by
      rcases List.mem_append.mp hy with h | h
      · exact ha y h
      · rw [List.mem_singleton] at h; rw [h]; exact hx
    refine ⟨ns, r', h1, h2, by rw [h3, List.length_append, List.length_singleton, List.length_cons]; omega, ?_⟩
    have g3 : gmul (.int 3) (.int k) = some (.int (3 * k)) := gmul_l (by decide)
    have g7 : gmod (.int (f + 3 * k)) (.int 7) = some (.int ((f + 3 * k) % 7)) := gmod_pos (by decide)
    rw [← h4]
    rw [show ints' (k :: xs) = .int k :: ints' xs from rfl, compL_step (N := 4) (y := .str x) (ρ1 := [some s, some r, some (KR.I f), some (KR.I k)]) (ρ3 := [some s, some (.val (.lst menu)), some (KR.I f), some (KR.I k)]) (by simp) rfl (by simp) ?_ (by rfl)]
    · simp
    · generalize menu = mm at *
      rcases hr with rfl | rfl <;> simp [g3, g7, e]
theorem names_eq {n : Nat} {t : List Int} {k : Int} (ht : Tp t) (hl : t.length ≤ 2520) (h0 : 0 ≤ k) (h1 : k < 990000) : ∃ ns : List Str, Nm ns ∧ call (n + 3) 29 [St t k] = some (.ok (NS ns), [St t (k + 2)]) := by
  obtain ⟨f, f0, f1, e1⟩ := take_eq (n := n) (m := 7) ht hl h0 (by omega) (by decide)
  obtain ⟨c, c0, c1, e2⟩ := take_eq (n := n) (k := k + 1) (m := 3) ht hl (by omega) (by omega) (by decide)
  obtain ⟨R, hR, lR⟩ : ∃ R : List Int, rng1 [.int (1 + c)] = some (ints' R) ∧ (R.length : Int) = 1 + c := ⟨_, by rw [rng1, if_pos ⟨by omega, by omega⟩, rng_ints], by simp; omega⟩
  obtain ⟨ns, r', a1, a2, a3, a4⟩ := names_comp (s := St t (k + 1 + 1)) (f := f) R (.olst menu) [] (.inl rfl) (fun x h => by cases h)
  simp at a3
  refine ⟨ns, ⟨fun x h => (menu_ok x (a2 x h)).1, fun x h => (menu_ok x (a2 x h)).2.1, fun x h => (menu_ok x (a2 x h)).2.2, by omega, by omega⟩, ?_⟩
  have hi : icl rng1 (acons (KR.bin gadd (KR.ret (.int 1)) (frz (ocall (call (n + 2) 23) 2 (clend 0 (cval (KR.ret (.int 3)) (KR.ret [])))))) (KR.ret [])) [some (St t (k + 1)), some (.olst menu), some (KR.I f), none] = some (.ok (ints' R), [some (St t (k + 1 + 1)), some (.olst menu), some (KR.I f), none]) :=
    icl_ok (as := [.int (1 + c)]) (by simp [takeA, putA, e2]) hR
  have z : lcomp [3] (icl rng1 (acons (KR.bin gadd (KR.ret (.int 1)) (frz (ocall (call (n + 2) 23) 2 (clend 0 (cval (KR.ret (.int 3)) (KR.ret [])))))) (KR.ret []))) (gnm 3) (KR.ret true) EN [some (St t (k + 1)), some (.olst menu), some (KR.I f), none] = some (.ok (.olst (ns.map .str)), [some (St t (k + 1 + 1)), some r', some (KR.I f), none]) := by
    rw [lcomp_ap, bnd_ap, hi]
    dsimp only
    rw [if_pos ⟨rfl, by rw [size_line]; simp; omega⟩]
    have a4' : compL (gnm 3) (KR.ret true) EN [3] 4 (ints' R) [] [some (St t (k + 1 + 1)), some (.olst menu), some (KR.I f), none] = _ := a4
    have w1 : wipeE [some (St t (k + 1 + 1)), some (.olst menu), some (KR.I f), none] [3] = [some (St t (k + 1 + 1)), some (.olst menu), some (KR.I f), none] := rfl
    have w2 : ([some (St t (k + 1 + 1)), some (.olst menu), some (KR.I f), none] : KR.Env).length = 4 := rfl
    rw [w1, w2, a4']
    rfl
  rw [show n + 3 = (n + 2) + 1 from rfl, call]
  simp only [bodies]
  unfold runD b29
  have ek : k + 1 + 1 = k + 2 := by omega
  rw [ek] at z
  generalize lcomp _ _ _ _ _ = Z at z ⊢
  simp [lockOf, backs, takeA, putA, e1, z]
theorem leaf_eq {n : Nat} {ns : List Str} (hn : Nm ns) {t : List Int} {k : Int} (ht : Tp t) (hl : t.length ≤ 2520) (h0 : 0 ≤ k) (h1 : k < 990000) : ∃ (d : D) (k' : Int), Tr ns 1 d ∧ k ≤ k' ∧ k' ≤ k + 2 ∧ call (n + 3) 30 [St t k, NS ns] = some (.ok (.val d), [St t k', NS ns]) := by
  obtain ⟨f, f0, f1, e1⟩ := take_eq (n := n) (m := 5) ht hl h0 (by omega) (by decide)
  rw [show n + 3 = (n + 2) + 1 from rfl, call]
  simp only [bodies]
  unfold runD b30
  by_cases q1 : f < 2
  · exact ⟨_, k + 1, tr_leaf (.inl rfl), by omega, by omega, by simp [lockOf, backs, takeA, putA, e1, q1]⟩
  · by_cases q2 : f = 2
    · exact ⟨_, k + 1, tr_leaf (.inr rfl), by omega, by omega, by simp [lockOf, backs, takeA, putA, e1, q2]⟩
    · obtain ⟨j, j0, j1, e2⟩ := take_eq (n := n) (k := k + 1) (m := (ns.length : Int)) ht hl (by omega) (by omega) (by have := hn.p; omega)
      have a := atI_int (xs := ns.map D.str) j0 (by simpa using j1)
      rw [List.getElem_map] at a
      refine ⟨_, k + 1 + 1, tr_is (List.getElem_mem (l := ns) (n := j.toNat) (by omega)) hn.w, by omega, by omega, ?_⟩
      simp [lockOf, backs, takeA, putA, e1, q1, q2, e2, a]
abbrev l1 : List D := [.str "last", .str "first", .str "before"]
abbrev l2 : List D := [.str "great", .str "least", .str "times"]
abbrev l3 : List D := [.int 2, .int 2, .int 3]
abbrev l4 : List D := [.str "less", .str "same", .str "since", .str "among", .str "since", .str "among", .str "less", .str "same"]
theorem at_one {z : Int} (h0 : 0 ≤ z) (h1 : z < 3) : ∃ w : Str, (w = "last" ∨ w = "first" ∨ w = "before") ∧ atI l1 z = some (.str w) := by
  rcases (show z = 0 ∨ z = 1 ∨ z = 2 by omega) with rfl | rfl | rfl
  · exact ⟨_, .inl rfl, rfl⟩
  · exact ⟨_, .inr (.inl rfl), rfl⟩
  · exact ⟨_, .inr (.inr rfl), rfl⟩
theorem at_num {z : Int} (h0 : 0 ≤ z) (h1 : z < 3) : ∃ (w : Str) (m : Int), ((w = "great" ∨ w = "least") ∧ m = 2 ∨ w = "times" ∧ m = 3) ∧ atI l2 z = some (.str w) ∧ atI l3 z = some (.int m) := by
  rcases (show z = 0 ∨ z = 1 ∨ z = 2 by omega) with rfl | rfl | rfl
  · exact ⟨_, 2, .inl ⟨.inl rfl, rfl⟩, rfl, rfl⟩
  · exact ⟨_, 2, .inl ⟨.inr rfl, rfl⟩, rfl, rfl⟩
  · exact ⟨_, 3, .inr ⟨rfl, rfl⟩, rfl, rfl⟩
theorem at_two {z : Int} (h0 : 0 ≤ z) (h1 : z < 8) : ∃ w : Str, (w = "less" ∨ w = "same" ∨ w = "since" ∨ w = "among") ∧ atI l4 z = some (.str w) := by
  rcases (show z = 0 ∨ z = 1 ∨ z = 2 ∨ z = 3 ∨ z = 4 ∨ z = 5 ∨ z = 6 ∨ z = 7 by omega) with rfl | rfl | rfl | rfl | rfl | rfl | rfl | rfl
  · exact ⟨_, .inl rfl, rfl⟩
  · exact ⟨_, .inr (.inl rfl), rfl⟩
  · exact ⟨_, .inr (.inr (.inl rfl)), rfl⟩
  · exact ⟨_, .inr (.inr (.inr rfl)), rfl⟩
  · exact ⟨_, .inr (.inr (.inl rfl)), rfl⟩
  · exact ⟨_, .inr (.inr (.inr rfl)), rfl⟩
  · exact ⟨_, .inl rfl, rfl⟩
  · exact ⟨_, .inr (.inl rfl), rfl⟩
def TreeOk (cc : Nat → Cl) (ns : List Str) (t : List Int) (m : Nat) : Prop := ∀ (k : Int), 0 ≤ k → k + 8 * m < 900000 → ∃ (d : D) (k' : Int), Tr ns m d ∧ k ≤ k' ∧ k' ≤ k + 8 * m ∧ cc 31 [St t k, NS ns, KR.I m] = some (.ok (.val d), [St t k', NS ns, KR.I m])
abbrev EK (cc : Nat → Cl) : M D := (frz (ocall (cc 31) 3 (clend 0 (cval (getv 1) (cval (KR.bin gdiv (KR.bin gsub (getv 2) (KR.ret (.int 1))) (KR.ret (.int 3))) (KR.ret []))))))
theorem kids_eq {cc : Nat → Cl} {ns : List Str} {t : List Int} {m j : Nat} (hT : TreeOk cc ns t j) (hj : j = (m - 1) / 3) (hm : 1 ≤ m) {k : Int} (h0 : 0 ≤ k) (h1 : k + 24 * j < 900000) {v3 v4 v5 v6 v7 : Option RV} :
    ∃ (d e f : D) (k' : Int), Tr ns j d ∧ Tr ns j e ∧ Tr ns j f ∧ k ≤ k' ∧ k' ≤ k + 24 * j ∧ lcomp [8] (icl rng1 (acons (KR.ret (.int 3)) (KR.ret []))) (gnm 8) (KR.ret true) (EK cc) [some (St t k), some (NS ns), some (KR.I m), v3, v4, v5, v6, v7, none] = some (.ok (.olst [d, e, f]), [some (St t k'), some (NS ns), some (KR.I m), v3, v4, v5, v6, v7, none]) := by
  obtain ⟨d, k1, a1, a2, a3, a4⟩ := hT k h0 (by omega)
  obtain ⟨e, k2, b1, b2, b3, b4⟩ := hT k1 (by omega) (by omega)
  obtain ⟨f, k3, c1, c2, c3, c4⟩ := hT k2 (by omega) (by omega)
  refine ⟨d, e, f, k3, a1, b1, c1, by omega, by omega, ?_⟩
  have hd : gdiv (.int ((m : Int) - 1)) (.int 3) = some (.int (j : Nat)) := by
    rw [div_lit (by decide) (by decide)]
    have : ((m : Int) - 1) / 3 = (j : Nat) := by omega
    rw [this]
  have hR : rng1 [.int 3] = some [.int 0, .int 1, .int 2] := by rw [rng1, if_pos (by unfold okR; decide)]; rfl
  have hi : icl rng1 (acons (KR.ret (.int 3)) (KR.ret [])) [some (St t k), some (NS ns), some (KR.I m), v3, v4, v5, v6, v7, none] = some (.ok [.int 0, .int 1, .int 2], [some (St t k), some (NS ns), some (KR.I m), v3, v4, v5, v6, v7, none]) := icl_ok (as := [.int 3]) (by simp) hR
  have st : ∀ (x y : D) (xs acc : List D) (q q' : Int), cc 31 [St t q, NS ns, KR.I j] = some (.ok (.val y), [St t q', NS ns, KR.I j]) → compL (gnm 8) (KR.ret true) (EK cc) [8] 9 (x :: xs) acc [some (St t q), some (NS ns), some (KR.I m), v3, v4, v5, v6, v7, none] = compL (gnm 8) (KR.ret true) (EK cc) [8] 9 xs (acc ++ [y]) [some (St t q'), some (NS ns), some (KR.I m), v3, v4, v5, v6, v7, none] := by
    intro x y xs acc q q' z
    rw [compL_step (N := 9) (y := y) (ρ1 := [some (St t q), some (NS ns), some (KR.I m), v3, v4, v5, v6, v7, some (.val x)]) (ρ3 := [some (St t q'), some (NS ns), some (KR.I m), v3, v4, v5, v6, v7, some (.val x)]) (by simp) rfl (by simp) ?_ (by rfl)]
    · simp
    · simp [hd, takeA, putA, z]
  rw [lcomp_ap, bnd_ap, hi]
  dsimp only
  rw [if_pos ⟨rfl, by decide⟩]
  have w1 : wipeE [some (St t k), some (NS ns), some (KR.I m), v3, v4, v5, v6, v7, none] [8] = [some (St t k), some (NS ns), some (KR.I m), v3, v4, v5, v6, v7, none] := rfl
  have w2 : ([some (St t k), some (NS ns), some (KR.I m), v3, v4, v5, v6, v7, none] : KR.Env).length = 9 := rfl
  rw [w1, w2, st _ d _ _ k k1 a4, st _ e _ _ k1 k2 b4, st _ f _ _ k2 k3 c4]
  rfl
theorem tree_eq {ns : List Str} (hn : Nm ns) {t : List Int} (ht : Tp t) (hl : t.length ≤ 2520) : ∀ (m : Nat), 1 ≤ m → m ≤ 11 → ∀ n, TreeOk (call (m + n + 3)) ns t m := by
  intro m
  induction m using Nat.strongRecOn with
  | _ m ih =>
    intro hm hm2 n k h0 h1
    obtain ⟨f, f0, f1, e1⟩ := take_eq (n := m + n) (k := k) (m := 16) ht hl h0 (by omega) (by decide)
    rw [show m + n + 3 = (m + n + 2) + 1 from rfl, call]
    simp only [bodies]
    unfold runD b31
    by_cases q1 : (m : Int) < 2
    · obtain ⟨d, k', a1, a2, a3, a4⟩ := leaf_eq (n := m + n - 1) hn ht hl (k := k + 1) (by omega) (by omega)
      rw [show m + n - 1 + 3 = m + n + 2 by omega] at a4
      exact ⟨d, k', a1.le hm, by omega, by omega, by simp [lockOf, backs, takeA, putA, e1, q1, a4]⟩
    by_cases q2 : f = 0
    · obtain ⟨d, k', a1, a2, a3, a4⟩ := leaf_eq (n := m + n - 1) hn ht hl (k := k + 1) (by omega) (by omega)
      rw [show m + n - 1 + 3 = m + n + 2 by omega] at a4
      exact ⟨d, k', a1.le hm, by omega, by omega, by simp [lockOf, backs, takeA, putA, e1, q1, q2, a4]⟩
    obtain ⟨m', rfl⟩ : ∃ m', m = m' + 1 := ⟨m - 1, by omega⟩
    have hm1 : ((m' + 1 : Nat) : Int) - 1 = (m' : Nat) := by omega
    have up : ∀ j, 1 ≤ j → j ≤ m' → TreeOk (call (m' + 1 + n + 2)) ns t j := fun j hj hj2 => by
      have := ih j (by omega) hj (by omega) (m' - j + n)
      rwa [show j + (m' - j + n) + 3 = m' + 1 + n + 2 by omega] at this
    obtain ⟨M, hM⟩ : ∃ M : Int, M = ((m' + 1 : Nat) : Int) := ⟨_, rfl⟩
    have hMI : KR.I ((m' + 1 : Nat) : Int) = .val (.int M) := by rw [hM]
    rw [hMI]
    rw [← hM] at q1 hm1
    by_cases q3 : f < 4
    · obtain ⟨w, hw, ew⟩ := at_one (z := f - 1) (by omega) (by omega)
      obtain ⟨d, k', a1, a2, a3, a4⟩ := up m' (by omega) (Nat.le_refl _) (k + 1) (by omega) (by omega)
      refine ⟨_, k', tr_one hw a1, by omega, by omega, ?_⟩
      simp [lockOf, backs, takeA, putA, e1, q1, q2, q3, ew, hm1, a4]
    by_cases q4 : f < 7
    · obtain ⟨w, mm, hw, ew, em⟩ := at_num (z := f - 4) (by omega) (by omega)
      have hmm : 0 < mm := by omega
      obtain ⟨j, j0, j1, e2⟩ := take_eq (n := m' + 1 + n) (k := k + 1) (m := mm) ht hl (by omega) (by omega) hmm
      obtain ⟨d, k', a1, a2, a3, a4⟩ := up m' (by omega) (Nat.le_refl _) (k + 1 + 1) (by omega) (by omega)
      obtain ⟨jn, hjn⟩ : ∃ jn : Nat, 1 + j = (jn : Int) := ⟨(1 + j).toNat, by omega⟩
      refine ⟨_, k', tr_num (w := w) (j := jn) (hw.elim (fun h => .inl ⟨h.1, by have := h.2; omega, by have := h.2; omega⟩) fun h => .inr ⟨h.1, by have := h.2; omega, by have := h.2; omega⟩) a1, by omega, by omega, ?_⟩
      simp [lockOf, backs, takeA, putA, e1, q1, q2, q3, q4, ew, em, e2, hm1, a4, hjn]
    by_cases q5 : f = 7
    · obtain ⟨i, i0, i1, e2⟩ := take_eq (n := m' + 1 + n) (k := k + 1) (m := 2) ht hl (by omega) (by omega) (by decide)
      obtain ⟨j, j0, j1, e3⟩ := take_eq (n := m' + 1 + n) (k := k + 1 + 1) (m := 2 + i) ht hl (by omega) (by omega) (by omega)
      obtain ⟨d, k', a1, a2, a3, a4⟩ := up m' (by omega) (Nat.le_refl _) (k + 1 + 1 + 1) (by omega) (by omega)
      obtain ⟨jn, rfl⟩ : ∃ jn : Nat, j = (jn : Int) := ⟨j.toNat, by omega⟩
      obtain ⟨iN, hin⟩ : ∃ iN : Nat, 2 + i = (iN : Int) := ⟨(2 + i).toNat, by omega⟩
      rw [hin] at e3 j1
      refine ⟨_, k', tr_circle (i := iN) (j := jn) (by omega) (by omega) a1, by omega, by omega, ?_⟩
      simp [lockOf, backs, takeA, putA, e1, q1, q2, q3, q4, q5, e2, e3, hm1, a4, hin]
    by_cases q6 : f < 10 ∧ 3 < M
    · obtain ⟨q6, q7⟩ := q6
      obtain ⟨d, e, g, k', a1, a2, a3, a4, a5, a6⟩ := kids_eq (cc := call (m' + 1 + n + 2)) (ns := ns) (t := t) (m := m' + 1) (j := m' / 3) (up _ (by omega) (by omega)) (by simp) (by omega) (k := k + 1) (by omega) (by omega) (v3 := some (KR.I f)) (v4 := none) (v5 := none) (v6 := none) (v7 := none)
      refine ⟨_, k', tr_if (a1.le (m' := m') (by omega)) (a2.le (m' := m') (by omega)) (a3.le (m' := m') (by omega)), by omega, by omega, ?_⟩
      have a6' : lcomp [8] (icl rng1 (acons (KR.ret (.int 3)) (KR.ret []))) (gnm 8) (KR.ret true) (EK (call (m' + 1 + n + 2))) [some (St t (k + 1)), some (NS ns), some (.val (.int M)), some (KR.I f), none, none, none, none, none] = some (.ok (.olst [d, e, g]), [some (St t k'), some (NS ns), some (.val (.int M)), some (KR.I f), none, none, none, none, none]) := by rw [hM]; exact a6
      have i2 : atI [d, e, g] 2 = some g := rfl
      generalize lcomp _ _ _ _ _ = Z at a6' ⊢
      simp [lockOf, backs, takeA, putA, e1, q1, q2, q3, q4, q5, q6, q7, a6', i2]
    have q6' : (decide (f < 10) && decide (3 < M)) = false := by
      by_cases z : f < 10
      · simp [z]; omega
      · simp [z]
    by_cases q8 : M < 3
    · obtain ⟨d, k', a1, a2, a3, a4⟩ := leaf_eq (n := m' + 1 + n - 1) hn ht hl (k := k + 1) (by omega) (by omega)
      rw [show m' + 1 + n - 1 + 3 = m' + 1 + n + 2 by omega] at a4
      have q9 : ¬ (3 < M) := by omega
      refine ⟨_, k', tr_one (.inl rfl) (a1.le (m' := m') (by omega)), by omega, by omega, ?_⟩
      by_cases z : f < 10
      · simp [lockOf, backs, takeA, putA, e1, q1, q2, q3, q4, q5, z, q9, q8, a4]
      · simp [lockOf, backs, takeA, putA, e1, q1, q2, q3, q4, q5, z, q8, a4]
    · obtain ⟨j, j0, j1, e2⟩ := take_eq (n := m' + 1 + n) (k := k + 1) (m := M - 2) ht hl (by omega) (by omega) (by omega)
      obtain ⟨w, hw, ew⟩ := at_two (z := f % 8) (Int.emod_nonneg _ (by decide)) (Int.emod_lt_of_pos _ (by decide))
      obtain ⟨jn, hjn⟩ : ∃ jn : Nat, 1 + j = (jn : Int) := ⟨(1 + j).toNat, by omega⟩
      obtain ⟨d, k', a1, a2, a3, a4⟩ := up jn (by omega) (by omega) (k + 1 + 1) (by omega) (by omega)
      obtain ⟨e, k2, b1, b2, b3, b4⟩ := up (m' - jn) (by omega) (by omega) k' (by omega) (by omega)
      have hs : M - 1 - (jn : Int) = ((m' - jn : Nat) : Int) := by omega
      have g8 : gmod (.int f) (.int 8) = some (.int (f % 8)) := gmod_pos (by decide)
      refine ⟨_, k2, tr_two hw (a1.le (m' := m') (by omega)) (b1.le (m' := m') (by omega)), by omega, by omega, ?_⟩
      rw [← hs] at b4
      generalize f % 8 = f8 at *
      by_cases z : f < 10
      · have z2 : ¬ 3 < M := fun h => q6 ⟨z, h⟩
        simp [lockOf, backs, takeA, putA, e1, q1, q2, q3, q4, q5, z, z2, q8, e2, hjn, g8, ew, a4, b4]
      · simp [lockOf, backs, takeA, putA, e1, q1, q2, q3, q4, q5, z, q8, e2, hjn, g8, ew, a4, b4]
end My

set_option Elab.async false
set_option linter.all false
set_option maxRecDepth 100000
namespace My
open PySem L2 KR
abbrev Rec := Str × (Int × Int)
abbrev Num := Int × Int
def rc (r : Rec) : D := .tup [.str r.1, fr r.2]
def opt : Option Num → D
  | none => .non
  | some x => fr x
def ins (x : Num) (l : List Num) : List Num := if x ∈ l then l else (l.filter fun y => decide (lt y x)) ++ x :: (l.filter fun y => decide (lt x y))
def amongst : List (Option Num) → List Num → List Num
  | [], l => l
  | none :: r, l => amongst r l
  | some x :: r, l => amongst r (ins x l)
abbrev RW (row : List Rec) : RV := .val (.lst (row.map rc))
theorem take_sl {ds : List D} {c : Nat} (h : c < ds.length) : gsl none (some ((c : Int) + 1)) (.lst ds) = some (.lst (ds.take (c + 1))) := by
  show some (D.lst (cutD ds none (some ((c : Int) + 1)))) = _
  unfold cutD
  have e2 := HT.sIx_nat ds.length ds.length (c + 1)
  rw [show ((c + 1 : Nat) : Int) = (c : Int) + 1 from rfl] at e2
  rw [e2, HT.sIx_none, Nat.min_eq_left (by omega), Nat.sub_zero, List.drop_zero]
theorem rng_len {ds : List D} (hl : ds.length ≤ 1000) : rng1 [.int (ds.length : Int)] = some (ints' ((List.range ds.length).map fun (i : Nat) => (i : Int))) := by
  rw [rng1, if_pos ⟨by omega, by omega⟩, rng_ints]
  rfl
theorem answers_fin {Z : M RV} {ρ : KR.Env} {r : RV} (e : Z ρ = some (.ok r, ρ)) : sret Z [] ρ = some (.ok (.ret r), ρ) := by
  rw [sret_ap, sbnd_ap, e]
  rfl
theorem run2 {N : Nat} {b : S} {x y : D} {r : RV} (e : b [] ([some (.val x), some (.val y)] ++ List.replicate (N - 2) none) = some (.ok (.ret r), [some (.val x), some (.val y)] ++ List.replicate (N - 2) none)) (hN : 2 ≤ N) : runD 2 N b [.val x, .val y] = some (.ok r, [.val x, .val y]) := by
  unfold runD
  rw [if_pos ⟨rfl, hN⟩]
  show (match b [] ([some (.val x), some (.val y)] ++ List.replicate (N - 2) none) with | some (.ok .nx, ρ') => _ | some (.ok (.ret r), ρ') => _ | some (.error x, ρ') => _ | _ => none) = _
  rw [e]
  rfl
def insR (x : Num) : List Num → List Num
  | [] => [x]
  | y :: ys => if y = x then y :: ys else if lt x y then x :: y :: ys else y :: insR x ys
theorem insR_eq {x : Num} (hx : Fr x) : ∀ l : List Num, Good l → insR x l = ins x l
  | [], _ => by simp [insR, ins]
  | y :: l, h => by
    have hy := h.f y List.mem_cons_self
    have hl : ∀ z ∈ l, Fr z := fun z hz => h.f z (List.mem_cons_of_mem _ hz)
    obtain ⟨h1, h2⟩ := List.pairwise_cons.mp h.s
    unfold insR ins
    by_cases e : y = x
    · rw [if_pos e, if_pos (by rw [e]; exact List.mem_cons_self)]
    · rw [if_neg e]
      by_cases q : lt x y
      · have hm : ¬ x ∈ y :: l := fun m => by
          rcases List.mem_cons.mp m with z | z
          · exact e z.symm
          · exact lt_irr (lt_trans hx.p hy.p hx.p q (h1 x z))
        have up : ∀ z ∈ l, lt x z := fun z hz => lt_trans hx.p hy.p (hl z hz).p q (h1 z hz)
        have f1 : ((y :: l).filter fun z => decide (lt z x)) = [] := List.filter_eq_nil_iff.mpr fun z hz => by
          rcases List.mem_cons.mp hz with w | w
          · rw [w]; simpa using lt_asymm q
          · simpa using lt_asymm (up z w)
        have f2 : ((y :: l).filter fun z => decide (lt x z)) = y :: l := List.filter_eq_self.mpr fun z hz => by
          rcases List.mem_cons.mp hz with w | w
          · rw [w]; simpa using q
          · simpa using up z w
        rw [if_pos q, if_neg hm, f1, f2]
        rfl
      · have k := lt_tri hx hy e q
        rw [if_neg q, insR_eq hx l ⟨hl, h2⟩]
        have em : (x ∈ y :: l) ↔ x ∈ l := ⟨fun m => (List.mem_cons.mp m).elim (fun z => absurd z.symm e) id, List.mem_cons_of_mem _⟩
        unfold ins
        by_cases m : x ∈ l
        · rw [if_pos m, if_pos (em.mpr m)]
        · rw [if_neg m, if_neg fun z => m (em.mp z), List.filter_cons_of_pos (by simpa using k), List.filter_cons_of_neg (by simpa using lt_asymm k)]
          rfl
theorem cut_head {ds es : List D} : gsl none (some (ds.length : Int)) (.tup (ds ++ es)) = some (.tup ds) := by
  show some (D.tup (cutD (ds ++ es) none (some (ds.length : Int)))) = _
  unfold cutD
  rw [HT.sIx_nat, HT.sIx_none, Nat.min_eq_left (by simp), Nat.sub_zero, List.drop_zero, List.take_left']
  rfl
theorem cut_tail {ds es : List D} : gsl (some (ds.length : Int)) none (.tup (ds ++ es)) = some (.tup es) := by
  show some (D.tup (cutD (ds ++ es) (some (ds.length : Int)) none)) = _
  unfold cutD
  rw [HT.sIx_nat, HT.sIx_none, Nat.min_eq_left (by simp), List.drop_left', List.take_of_length_le (by simp)]
  rfl
theorem gadd_tup {a b : List D} (h : a.length + b.length ≤ 16777216) : gadd (.tup a) (.tup b) = some (.tup (a ++ b)) := if_pos (by rw [size_line]; exact h)
abbrev BI (cc : Nat → Cl) : S := (seq (sif (tst (KR.bin geq (getv 3) (getv 0))) (sret (val (getv 1))) skip)
  (sif (tstV (frz (ocall (cc 0) 2 (cval (getv 0) (cval (getv 3) (KR.ret [])))))) (sret (val (KR.bin gadd (KR.bin gadd (cut (getv 1) (KR.ret none) (par (getv 2))) (dtup (acons (getv 0) (KR.ret [])))) (cut (getv 1) (par (getv 2)) (KR.ret none))))) skip))
theorem ins_for {n : Nat} {x : Num} (hx : Fr x) {l : List Num} (hl : ∀ y ∈ l, Fr y) (hn : l.length ≤ 1000) : ∀ (b a : List Num) (u v : Option RV), l = a ++ b → ∃ u' v' : Option RV,
    (forL (gtp 2 (gsc (gnm 2) (gsc (gnm 3) gsn))) (BI (call (n + 1))) (enumD a.length (b.map fr)) [] [some (W x), some (T l), u, v] = some (.ok (.ret (T (a ++ insR x b))), [some (W x), some (T l), u', v'])) ∨
    (insR x b = b ++ [x] ∧ forL (gtp 2 (gsc (gnm 2) (gsc (gnm 3) gsn))) (BI (call (n + 1))) (enumD a.length (b.map fr)) [] [some (W x), some (T l), u, v] = some (.ok .nx, [some (W x), some (T l), u', v']))
  | [], a, u, v, _ => ⟨u, v, .inr ⟨rfl, rfl⟩⟩
  | y :: b, a, u, v, hab => by
    have hy := hl y (by rw [hab]; simp)
    have hg : gtp 2 (gsc (gnm 2) (gsc (gnm 3) gsn)) (.tup [.int (a.length : Nat), fr y]) [] [some (W x), some (T l), u, v] = some [some (W x), some (T l), some (KR.I a.length), some (W y)] := by simp
    by_cases e : y = x
    · refine ⟨some (KR.I a.length), some (W y), .inl ?_⟩
      have er : insR x (y :: b) = y :: b := by rw [insR, if_pos e]
      rw [List.map_cons, enumD, er, ← hab]
      rw [forL_ret (r := T l) (ρ2 := [some (W x), some (T l), some (KR.I a.length), some (W y)]) hg]
      simp [e]
    · have hlt := less_eq (n := n) hx.sm.a hx.sm.b hy.sm.a hy.sm.b
      by_cases q : lt x y
      · refine ⟨some (KR.I a.length), some (W y), .inl ?_⟩
        have er : insR x (y :: b) = x :: y :: b := by rw [insR, if_neg e, if_pos q]
        have c1 := cut_head (ds := a.map fr) (es := (y :: b).map fr)
        have c2 := cut_tail (ds := a.map fr) (es := (y :: b).map fr)
        rw [← List.map_append, ← hab, List.length_map] at c1 c2
        have hlen : l.length = a.length + (b.length + 1) := by rw [hab]; simp
        have g1 := gadd_tup (a := a.map fr) (b := [fr x]) (by simp; omega)
        have g2 := gadd_tup (a := a.map fr ++ [fr x]) (b := (y :: b).map fr) (by simp; omega)
        have eT : T (a ++ x :: y :: b) = .val (.tup (a.map fr ++ [fr x] ++ (y :: b).map fr)) := by simp
        rw [List.map_cons, enumD, er, eT]
        rw [forL_ret (r := .val (.tup (a.map fr ++ [fr x] ++ (y :: b).map fr))) (ρ2 := [some (W x), some (T l), some (KR.I a.length), some (W y)]) hg]
        generalize (y :: b).map fr = B at c1 c2 g2
        generalize a.map fr ++ [fr x] ++ B = R at g2
        generalize a.map fr ++ [fr x] = R1 at g1 g2
        simp [e, q, takeA, putA, hlt, asI, c1, c2, g1, g2]
      · obtain ⟨u', v', z⟩ := ins_for (n := n) hx hl hn b (a ++ [y]) (some (KR.I a.length)) (some (W y)) (by rw [hab, List.append_assoc]; rfl)
        have er : insR x (y :: b) = y :: insR x b := by rw [insR, if_neg e, if_neg q]
        have el : (a ++ [y]).length = a.length + 1 := by simp
        rw [el] at z
        refine ⟨u', v', ?_⟩
        rw [List.map_cons, enumD, forL_nx (ρ2 := [some (W x), some (T l), some (KR.I a.length), some (W y)]) hg (by simp [e, q, takeA, putA, hlt]), er]
        rcases z with z | ⟨z1, z2⟩
        · exact .inl (by rw [z, List.append_assoc]; rfl)
        · exact .inr ⟨by rw [z1]; rfl, z2⟩
theorem inserted_eq {n : Nat} {x : Num} (hx : Fr x) {l : List Num} (G : Good l) (hn : l.length ≤ 1000) : call (n + 2) 1 [W x, T l] = some (.ok (T (ins x l)), [W x, T l]) := by
  rw [← insR_eq hx l G]
  obtain ⟨u, v, e | ⟨e1, e⟩⟩ := ins_for (n := n) hx G.f hn l [] none none rfl
  · rw [show n + 2 = (n + 1) + 1 from rfl, call]
    rw [List.nil_append] at e
    generalize T (insR x l) = R at e ⊢
    have e' : forL (gtp 2 (gsc (gnm 2) (gsc (gnm 3) gsn))) (BI (call (n + 1))) (enumD 0 (l.map fr)) [] [some (W x), some (T l), none, none] = _ := e
    simp [bodies, runD, b1, lockOf, enu, seqD, backs, e']
  · rw [show n + 2 = (n + 1) + 1 from rfl, call, e1]
    have e' : forL (gtp 2 (gsc (gnm 2) (gsc (gnm 3) gsn))) (BI (call (n + 1))) (enumD 0 (l.map fr)) [] [some (W x), some (T l), none, none] = _ := e
    have g1 := gadd_tup (a := l.map fr) (b := [fr x]) (by simp; omega)
    have eT : T (l ++ [x]) = .val (.tup (l.map fr ++ [fr x])) := by simp
    rw [eT]
    generalize l.map fr ++ [fr x] = R at g1
    simp [bodies, runD, b1, lockOf, enu, seqD, backs, e', g1]
theorem notN_opt (o : Option Num) : gnotN (opt o) = some (.bl o.isSome) := by cases o <;> rfl
theorem isN_opt (o : Option Num) : gisN (opt o) = some (.bl o.isNone) := by cases o <;> rfl
theorem opt_last (L : List Num) : L ≠ [] → atI (L.map fr) (-1) = some (opt L.getLast?) := by
  intro h
  have e : L = L.dropLast ++ [L.getLast h] := (List.dropLast_concat_getLast h).symm
  have e2 : L.getLast? = some (L.getLast h) := List.getLast?_eq_some_getLast h
  rw [e2]
  conv => lhs; rw [e, List.map_append]
  exact atI_last
theorem opt_head (L : List Num) : L ≠ [] → atI (L.map fr) 0 = some (opt L.head?) := by
  intro h
  cases L with
  | nil => exact absurd rfl h
  | cons x L => exact atI_zero
@[simp] theorem tru_lst {xs : List D} : tru (.lst xs) = some (!xs.isEmpty) := rfl
theorem run2' {N : Nat} {b : S} {x y : D} {r : RV} {v : List (Option RV)} (e : b [] ([some (.val x), some (.val y)] ++ List.replicate (N - 2) none) = some (.ok (.ret r), some (.val x) :: some (.val y) :: v)) (hN : 2 ≤ N) : runD 2 N b [.val x, .val y] = some (.ok r, [.val x, .val y]) := by
  unfold runD
  rw [if_pos ⟨rfl, hN⟩]
  show (match b [] ([some (.val x), some (.val y)] ++ List.replicate (N - 2) none) with | some (.ok .nx, ρ') => _ | some (.ok (.ret r), ρ') => _ | some (.error x, ρ') => _ | _ => none) = _
  rw [e]
  rfl
theorem row_last {row : List Rec} (h : row ≠ []) : ∃ r : Rec, row.getLast? = some r ∧ atI (row.map rc) (-1) = some (rc r) := by
  refine ⟨row.getLast h, List.getLast?_eq_some_getLast h, ?_⟩
  conv => lhs; rw [← List.dropLast_concat_getLast h, List.map_append]
  exact atI_last
@[simp] theorem rc_1 {r : Rec} : gix (rc r) (.int 1) = some (fr r.2) := atI_one
@[simp] theorem rc_0 {r : Rec} : gix (rc r) (.int 0) = some (.str r.1) := atI_zero
theorem forL_inv {g : Gd} {b : S} {lk : List Nat} {P : List D → KR.Env → Prop} (step : ∀ x xs ρ, P (x :: xs) ρ → ∃ ρ1 ρ2, g x lk ρ = some ρ1 ∧ b lk ρ1 = some (.ok .nx, ρ2) ∧ P xs ρ2) : ∀ (xs : List D) (ρ : KR.Env), P xs ρ → ∃ ρ', P [] ρ' ∧ forL g b xs lk ρ = some (.ok .nx, ρ')
  | [], ρ, h => ⟨ρ, h, rfl⟩
  | x :: xs, ρ, h => by
    obtain ⟨ρ1, ρ2, a, b, c⟩ := step x xs ρ h
    obtain ⟨ρ', d, e⟩ := forL_inv step xs ρ2 c
    exact ⟨ρ', d, by rw [forL_nx a b, e]⟩
abbrev upto (n : Nat) : List Int := (List.range n).map fun (i : Nat) => (i : Int)
theorem for_range {g : Gd} {b : S} {lk : List Nat} {n : Nat} {P : Nat → KR.Env → Prop} (step : ∀ k ρ, k < n → P k ρ → ∃ ρ1 ρ2, g (.int (k : Nat)) lk ρ = some ρ1 ∧ b lk ρ1 = some (.ok .nx, ρ2) ∧ P (k + 1) ρ2) {ρ : KR.Env} (h : P 0 ρ) : ∃ ρ', P n ρ' ∧ forL g b (ints' (upto n)) lk ρ = some (.ok .nx, ρ') := by
  have go : ∀ (m s : Nat) (ρ : KR.Env), s + m = n → P s ρ → ∃ ρ', P n ρ' ∧ forL g b (ints' ((List.range' s m).map fun (i : Nat) => (i : Int))) lk ρ = some (.ok .nx, ρ') := by
    intro m
    induction m with
    | zero => intro s ρ e h; exact ⟨ρ, by rwa [show n = s by omega], rfl⟩
    | succ m ih =>
      intro s ρ e h
      obtain ⟨ρ1, ρ2, a, c, d⟩ := step s ρ (by omega) h
      obtain ⟨ρ', f, k⟩ := ih (s + 1) ρ2 (by omega) d
      refine ⟨ρ', f, ?_⟩
      rw [List.range'_succ, List.map_cons, show ints' ((s : Int) :: ((List.range' (s + 1) m).map fun (i : Nat) => (i : Int))) = .int (s : Nat) :: ints' ((List.range' (s + 1) m).map fun (i : Nat) => (i : Int)) from rfl, forL_nx a c]
      exact k
  rw [upto, List.range_eq_range']
  exact go n 0 ρ (by omega) h
theorem ins_len {x : Num} (l : List Num) : (ins x l).length ≤ l.length + 1 := by
  unfold ins
  split
  · omega
  · have := filt_len (x := x) l
    rw [List.length_append, List.length_cons]
    exact Nat.succ_le_succ this
theorem ins_good {x : Num} {l : List Num} (hx : Fr x) (G : Good l) : Good (ins x l) := by
  unfold ins
  split
  · exact G
  · exact with_good G hx
theorem good_nil : Good [] := ⟨fun y h => (by cases h), List.Pairwise.nil⟩
abbrev InsOk (cc : Nat → Cl) : Prop := ∀ x A, Fr x → Good A → A.length ≤ 1000 → cc 1 [W x, T A] = some (.ok (T (ins x A)), [W x, T A])
theorem opt_at {A : List Num} {i : Nat} (h : i < A.length) : atI (A.map fr) (i : Int) = some (opt A[i]?) := by
  rw [KR.atI_nat (by simpa using h)]
  simp [h, opt]
theorem opt_at_s {A : List Num} {j : Nat} (h : j ≤ A.length) (h1 : 1 ≤ j) : atI (A.map fr) ((A.length : Int) - j) = some (opt A[A.length - j]?) := by
  rw [show (A.length : Int) - j = ((A.length - j : Nat) : Int) by omega]
  exact opt_at (by omega)
theorem opt_at_1 {A : List Num} {j : Nat} (h : j ≤ A.length) (h1 : 1 ≤ j) : atI (A.map fr) ((j : Int) - 1) = some (opt A[j - 1]?) := by
  rw [show (j : Int) - 1 = ((j - 1 : Nat) : Int) by omega]
  exact opt_at (by omega)
theorem lcomp_inv {it : M (List D)} {t : M Bool} {elt : M D} {v : Nat} {ρ0 ρ : KR.Env} {xs : List D} {rs : List (Option D)} {Iv : KR.Env → Prop} (hi : it ρ0 = some (.ok xs, ρ)) (hv : v < ρ.length) (hk : okW ρ [v] = true) (hl : xs.length ≤ 16777216) (h0 : Iv (ρ.set v none))
    (ha : All2 (fun x r => ∀ σ, Iv σ → σ.length = ρ.length → (r = none → ∃ σ', t (σ.set v (some (.val x))) = some (.ok false, σ') ∧ okW σ' [v] = true ∧ σ'.length = ρ.length ∧ Iv (σ'.set v none)) ∧
      ∀ y, r = some y → ∃ σ1 σ', t (σ.set v (some (.val x))) = some (.ok true, σ1) ∧ elt σ1 = some (.ok y, σ') ∧ okW σ' [v] = true ∧ σ'.length = ρ.length ∧ Iv (σ'.set v none)) xs rs) :
    ∃ σ, Iv σ ∧ σ.length = ρ.length ∧ lcomp [v] it (gnm v) t elt ρ0 = some (.ok (.olst (rs.filterMap id)), σ.set v (ρ.getD v none)) := by
  have go : ∀ {xs : List D} {rs : List (Option D)} (acc : List D) (σ : KR.Env), Iv σ → σ.length = ρ.length → σ[v]? = some none → All2 (fun x r => ∀ σ, Iv σ → σ.length = ρ.length → (r = none → ∃ σ', t (σ.set v (some (.val x))) = some (.ok false, σ') ∧ okW σ' [v] = true ∧ σ'.length = ρ.length ∧ Iv (σ'.set v none)) ∧
      ∀ y, r = some y → ∃ σ1 σ', t (σ.set v (some (.val x))) = some (.ok true, σ1) ∧ elt σ1 = some (.ok y, σ') ∧ okW σ' [v] = true ∧ σ'.length = ρ.length ∧ Iv (σ'.set v none)) xs rs →
      ∃ σ', Iv σ' ∧ σ'.length = ρ.length ∧ σ'[v]? = some none ∧ compL (gnm v) t elt [v] ρ.length xs acc σ = some (acc ++ rs.filterMap id, σ') := by
    intro xs rs acc σ iv hn hw h
    induction h generalizing acc σ with
    | nil => exact ⟨σ, iv, hn, hw, by simp [compL]⟩
    | @cons x r xs rs hp hr ih =>
      have hg : gnm v x (oth ρ.length [v]) σ = some (σ.set v (some (.val x))) := if_pos ⟨by omega, oth_not⟩
      obtain ⟨p1, p2⟩ := hp σ iv hn
      cases r with
      | none =>
        obtain ⟨σ', a, b, c, d⟩ := p1 rfl
        obtain ⟨σ2, e1, e2, e3, e4⟩ := ih acc (σ'.set v none) d (by rw [List.length_set, c]) (List.getElem?_set_self (by omega))
        refine ⟨σ2, e1, e2, e3, ?_⟩
        rw [compL, hg]
        dsimp only
        rw [if_pos (by rw [List.length_set, hn]), a]
        dsimp only
        rw [if_pos b, List.filterMap_cons_none (by rfl)]
        exact e4
      | some y =>
        obtain ⟨σ1, σ', a, a2, b, c, d⟩ := p2 y rfl
        obtain ⟨σ2, e1, e2, e3, e4⟩ := ih (acc ++ [y]) (σ'.set v none) d (by rw [List.length_set, c]) (List.getElem?_set_self (by omega))
        refine ⟨σ2, e1, e2, e3, ?_⟩
        rw [compL, hg]
        dsimp only
        rw [if_pos (by rw [List.length_set, hn]), a]
        dsimp only
        rw [a2]
        dsimp only
        rw [if_pos b, List.filterMap_cons_some (by rfl)]
        rw [List.append_assoc] at e4
        exact e4
  obtain ⟨σ, a, b, c, d⟩ := go [] (ρ.set v none) h0 (List.length_set) (List.getElem?_set_self hv) ha
  refine ⟨σ, a, b, ?_⟩
  rw [lcomp_ap, bnd_ap, hi]
  dsimp only
  have hw : wipeE ρ [v] = ρ.set v none := rfl
  rw [if_pos ⟨hk, by rw [size_line]; exact hl⟩, hw, d]
  dsimp only
  have hk2 : okW σ [v] = true := by simp [okW, plainS, c]
  rw [if_pos hk2]
  rfl
theorem all2_map {α : Type} {P : D → Option D → Prop} {f : α → D} {g : α → Option D} : ∀ (l : List α), (∀ x ∈ l, P (f x) (g x)) → All2 P (l.map f) (l.map g)
  | [], _ => .nil
  | x :: l, h => .cons (h x List.mem_cons_self) (all2_map l fun y hy => h y (List.mem_cons_of_mem _ hy))
def isL (r : RV) (xs : List D) : Prop := r = .olst xs ∨ r = .val (.lst xs)
theorem gin_two {x a b : Str} : gin (.str x) (.tup [.str a, .str b]) = some (.bl (decide (x = a ∨ x = b))) := by
  have := gin_strs (x := x) (ys := [a, b])
  simpa using this
theorem drop_sl {ds : List D} {c : Nat} (h : c ≤ ds.length) : gsl (some (c : Int)) none (.lst ds) = some (.lst (ds.drop c)) := by
  show some (D.lst (cutD ds (some (c : Int)) none)) = _
  unfold cutD
  rw [HT.sIx_nat, HT.sIx_none, Nat.min_eq_left h, List.take_of_length_le (by rw [List.length_drop]; omega)]
theorem opt_some {x : Num} : opt (some x) = fr x := rfl
theorem opt_none : opt none = .non := rfl
theorem for_list {α : Type} {f : α → D} {g : Gd} {b : S} {lk : List Nat} {L : List α} {P : Nat → KR.Env → Prop} (step : ∀ k (h : k < L.length) ρ, P k ρ → ∃ ρ1 ρ2, g (f L[k]) lk ρ = some ρ1 ∧ b lk ρ1 = some (.ok .nx, ρ2) ∧ P (k + 1) ρ2) {ρ : KR.Env} (h : P 0 ρ) : ∃ ρ', P L.length ρ' ∧ forL g b (L.map f) lk ρ = some (.ok .nx, ρ') := by
  have go : ∀ (m s : Nat) (ρ : KR.Env), s + m = L.length → P s ρ → ∃ ρ', P L.length ρ' ∧ forL g b ((L.drop s).map f) lk ρ = some (.ok .nx, ρ') := by
    intro m
    induction m with
    | zero => intro s ρ e h; exact ⟨ρ, by rwa [show L.length = s by omega], by rw [List.drop_of_length_le (by omega)]; rfl⟩
    | succ m ih =>
      intro s ρ e h
      obtain ⟨ρ1, ρ2, a, c, d⟩ := step s (by omega) ρ h
      obtain ⟨ρ', p, k⟩ := ih (s + 1) ρ2 (by omega) d
      refine ⟨ρ', p, ?_⟩
      rw [List.drop_eq_getElem_cons (by omega), List.map_cons, forL_nx a c]
      exact k
  have := go L.length 0 ρ (by omega) h
  rwa [List.drop_zero] at this
theorem seq_nx {a b : S} {lk : List Nat} {ρ ρ' : KR.Env} (h : a lk ρ = some (.ok .nx, ρ')) : seq a b lk ρ = b lk ρ' := by
  rw [seq_ap, h]
theorem take_snoc {α : Type} {L : List α} {k : Nat} (h : k < L.length) : L.take (k + 1) = L.take k ++ [L[k]] := by
  rw [List.take_add_one, List.getElem?_eq_getElem h]; rfl
theorem ins_eq {x : Num} (hx : Fr x) : ∀ {l : List Num}, Good l → ins x l = (l.filter fun y => decide (lt y x)) ++ x :: (l.filter fun y => decide (lt x y)) := by
  intro l G
  unfold ins
  by_cases m : x ∈ l
  · rw [if_pos m]
    induction l with
    | nil => cases m
    | cons y l ih =>
      have hy := G.f y List.mem_cons_self
      obtain ⟨h1, h2⟩ := List.pairwise_cons.mp G.s
      have Gl : Good l := ⟨fun z hz => G.f z (List.mem_cons_of_mem _ hz), h2⟩
      by_cases e : y = x
      · subst e
        have f1 : ((y :: l).filter fun z => decide (lt z y)) = [] := List.filter_eq_nil_iff.mpr fun z hz => by
          rcases List.mem_cons.mp hz with w | w
          · rw [w]; simpa using lt_irr
          · simpa using lt_asymm (h1 z w)
        have f2 : ((y :: l).filter fun z => decide (lt y z)) = l := by
          rw [List.filter_cons_of_neg (by simpa using lt_irr)]
          exact List.filter_eq_self.mpr fun z hz => by simpa using h1 z hz
        rw [f1, f2]
        rfl
      · have m' : x ∈ l := (List.mem_cons.mp m).elim (fun z => absurd z.symm e) id
        have k : lt y x := h1 x m'
        have r := ih Gl m'
        rw [List.filter_cons_of_pos (by simpa using k), List.filter_cons_of_neg (by simpa using lt_asymm k), List.cons_append, ← r]
  · rw [if_neg m]
abbrev WithOk (cc : Nat → Cl) : Prop := ∀ x A, Fr x → Good A → A.length ≤ 1000 → cc 28 [T A, W x] = some (.ok (OT (ins x A)), [T A, W x])
theorem with_ok {n : Nat} : WithOk (call (n + 2)) := fun x A hx G hA => by
  rw [ins_eq hx G]
  exact law_with_eq hx.sm (fun y hy => (G.f y hy).sm) hA
theorem len_rng {ds : List D} (hl : ds.length ≤ 1000) : rng1 [.int (ds.length : Int)] = some (ints' (upto ds.length)) := rng_len hl
theorem upto_rng {n : Nat} (h : n ≤ 1000) : rng1 [.int (n : Int)] = some (ints' (upto n)) := by
  have := len_rng (ds := List.replicate n D.non) (by simpa using h)
  rwa [List.length_replicate] at this
abbrev BR (cc : Nat → Cl) : S := (seq (sset 5 (ocall (cc 26) 1 (clend 0 (KR.ret []))))
  (seq (sif (tand (tst (KR.bin ggt (lenv 3) (KR.ret (.int 0)))) (tst (KR.bin geq (frz (ocall (cc 23) 2 (clend 0 (cval (KR.ret (.int 3)) (KR.ret []))))) (KR.ret (.int 0))))) (sset 5 (val (KR.bin gix (ixv 3 (frz (ocall (cc 23) 2 (clend 0 (cval (lenv 3) (KR.ret [])))))) (KR.ret (.int 1))))) skip)
  (sdo (apnd 3 (dtup (acons (KR.bin gix (getv 1) (frz (ocall (cc 23) 2 (clend 0 (cval (cal (f1 glen) (acons (getv 1) (KR.ret []))) (KR.ret [])))))) (acons (getv 5) (KR.ret []))))))))
theorem row_end {cc : Nat → Cl} {ns : List Str} {s s' : RV} {m : RV} {v4 : Option RV} {X : List D} {x : Num} {j : Int} {w : Str} (hX : X.length < 16777216) (e : cc 23 [s, KR.I ns.length] = some (.ok (KR.I j), [s', KR.I ns.length])) (ea : atI (ns.map D.str) j = some (.str w)) :
    (sdo (apnd 3 (dtup (acons (KR.bin gix (getv 1) (frz (ocall (cc 23) 2 (clend 0 (cval (cal (f1 glen) (acons (getv 1) (KR.ret []))) (KR.ret [])))))) (acons (getv 5) (KR.ret [])))))) [0] [some s, some (NS ns), some m, some (.olst X), v4, some (W x)] =
      some (.ok .nx, [some s', some (NS ns), some m, some (.olst (X ++ [rc (w, x)])), v4, some (W x)]) := by
  have er : rc (w, x) = .tup [.str w, fr x] := rfl
  rw [er]
  simp [takeA, putA, e, ea, hX]
theorem row_turn {n : Nat} {ns : List Str} (hn : Nm ns) {t : List Int} (ht : Tp t) (hl : t.length ≤ 2520) {k : Int} (h0 : 0 ≤ k) (h1 : k < 900000) {m : RV} {v4 v5 : Option RV} {row : List Rec} (hr : row.length ≤ 100) (hf : ∀ r ∈ row, Fr r.2) :
    ∃ (k' : Int) (r : Rec) (v5' : Option RV), k ≤ k' ∧ k' ≤ k + 10 ∧ Fr r.2 ∧ r.1 ∈ ns ∧ BR (call (n + 3)) [0] [some (St t k), some (NS ns), some m, some (.olst (row.map rc)), v4, v5] = some (.ok .nx, [some (St t k'), some (NS ns), some m, some (.olst ((row ++ [r]).map rc)), v4, v5']) := by
  have hp := hn.p
  obtain ⟨x, k1, hx, b1, b2, e1⟩ := number_eq (n := n) ht hl h0 (by omega)
  have ix : ∀ j : Int, 0 ≤ j → j < ns.length → ∃ w ∈ ns, atI (ns.map D.str) j = some (.str w) := fun j j0 j1 => by
    refine ⟨ns[j.toNat]'(by omega), List.getElem_mem _, ?_⟩
    rw [atI_int j0 (by simpa using j1)]
    simp
  have s1 : sset 5 (ocall (call (n + 3) 26) 1 (clend 0 (KR.ret []))) [0] [some (St t k), some (NS ns), some m, some (.olst (row.map rc)), v4, v5] = some (.ok .nx, [some (St t k1), some (NS ns), some m, some (.olst (row.map rc)), v4, some (W x)]) := by
    simp [takeA, putA, e1]
  have hX : (row.map rc).length < 16777216 := by rw [List.length_map]; omega
  by_cases q0 : row = []
  · obtain ⟨j, j0, j1, e2⟩ := take_eq (n := n + 1) (k := k1) (m := (ns.length : Int)) ht hl (by omega) (by omega) (by omega)
    obtain ⟨w, hw, ea⟩ := ix j j0 j1
    refine ⟨k1 + 1, (w, x), some (W x), by omega, by omega, hx, hw, ?_⟩
    unfold BR
    rw [List.map_append, seq_nx s1, seq_nx (ρ' := [some (St t k1), some (NS ns), some m, some (.olst (row.map rc)), v4, some (W x)]) (by subst q0; simp)]
    exact row_end hX e2 ea
  · have hl0 : 0 < row.length := List.length_pos_iff.mpr q0
    obtain ⟨f, f0, f1, e2⟩ := take_eq (n := n + 1) (k := k1) (m := 3) ht hl (by omega) (by omega) (by decide)
    by_cases q1 : f = 0
    · obtain ⟨i, i0, i1, e3⟩ := take_eq (n := n + 1) (k := k1 + 1) (m := (row.length : Int)) ht hl (by omega) (by omega) (by omega)
      obtain ⟨j, j0, j1, e4⟩ := take_eq (n := n + 1) (k := k1 + 1 + 1) (m := (ns.length : Int)) ht hl (by omega) (by omega) (by omega)
      obtain ⟨w, hw, ea⟩ := ix j j0 j1
      have hi : i.toNat < row.length := by omega
      have a1 : atI (row.map rc) i = some (rc row[i.toNat]) := by rw [atI_int i0 (by simpa using i1)]; simp
      refine ⟨k1 + 1 + 1 + 1, (w, row[i.toNat].2), some (W row[i.toNat].2), by omega, by omega, hf row[i.toNat] (List.getElem_mem _), hw, ?_⟩
      have lp : (0 : Int) < row.length := by omega
      unfold BR
      rw [List.map_append, seq_nx s1, seq_nx (ρ' := [some (St t (k1 + 1 + 1)), some (NS ns), some m, some (.olst (row.map rc)), v4, some (W row[i.toNat].2)]) ?_]
      · exact row_end hX e4 ea
      · simp [q0, hl0, takeA, putA, e2, q1, e3, a1]
    · obtain ⟨j, j0, j1, e4⟩ := take_eq (n := n + 1) (k := k1 + 1) (m := (ns.length : Int)) ht hl (by omega) (by omega) (by omega)
      obtain ⟨w, hw, ea⟩ := ix j j0 j1
      have lp : (0 : Int) < row.length := by omega
      refine ⟨k1 + 1 + 1, (w, x), some (W x), by omega, by omega, hx, hw, ?_⟩
      unfold BR
      rw [List.map_append, seq_nx s1, seq_nx (ρ' := [some (St t (k1 + 1)), some (NS ns), some m, some (.olst (row.map rc)), v4, some (W x)]) ?_]
      · exact row_end hX e4 ea
      · simp [q0, hl0, takeA, putA, e2, q1]
theorem row_for {n : Nat} {ns : List Str} (hn : Nm ns) {t : List Int} (ht : Tp t) (hl : t.length ≤ 2520) {m : RV} : ∀ (xs : List D) (k : Int) (row : List Rec) (v4 v5 : Option RV), 0 ≤ k → k + 10 * (xs.length : Int) < 900000 → row.length + xs.length ≤ 100 → (∀ r ∈ row, Fr r.2 ∧ r.1 ∈ ns) →
    ∃ (k' : Int) (row' : List Rec) (v4' v5' : Option RV), k ≤ k' ∧ k' ≤ k + 10 * (xs.length : Int) ∧ row'.length = row.length + xs.length ∧ (∀ r ∈ row', Fr r.2 ∧ r.1 ∈ ns) ∧
      forL (gnm 4) (BR (call (n + 3))) xs [0] [some (St t k), some (NS ns), some m, some (.olst (row.map rc)), v4, v5] = some (.ok .nx, [some (St t k'), some (NS ns), some m, some (.olst (row'.map rc)), v4', v5'])
  | [], k, row, v4, v5, h0, _, _, hf => ⟨k, row, v4, v5, Int.le_refl _, by simp, rfl, hf, rfl⟩
  | x :: xs, k, row, v4, v5, h0, h1, h2, hf => by
    rw [List.length_cons] at h1 h2
    obtain ⟨k1, r, v5', b1, b2, fr', hm, e⟩ := row_turn (n := n) hn ht hl h0 (by omega) (m := m) (v4 := some (.val x)) (v5 := v5) (row := row) (by omega) fun r hr => (hf r hr).1
    obtain ⟨k', row', v4', v5'', c1, c2, c3, c4, e'⟩ := row_for (n := n) hn ht hl (m := m) xs k1 (row ++ [r]) (some (.val x)) v5' (by omega) (by omega) (by rw [List.length_append, List.length_singleton]; omega) fun r' hr => by
      rcases List.mem_append.mp hr with h | h
      · exact hf r' h
      · rw [List.mem_singleton] at h
        rw [h]
        exact ⟨fr', hm⟩
    refine ⟨k', row', v4', v5'', by omega, by rw [List.length_cons]; omega, by rw [c3, List.length_append, List.length_singleton, List.length_cons]; omega, c4, ?_⟩
    rw [forL_nx (ρ1 := [some (St t k), some (NS ns), some m, some (.olst (row.map rc)), some (.val x), v5]) (by simp) e]
    exact e'
theorem row_eq {n : Nat} {ns : List Str} (hn : Nm ns) {t : List Int} (ht : Tp t) (hl : t.length ≤ 2520) {k : Int} (h0 : 0 ≤ k) (h1 : k < 800000) {m : Nat} (hm : m ≤ 50) :
    ∃ (k' : Int) (row : List Rec), k ≤ k' ∧ k' ≤ k + 1 + 10 * (m : Int) ∧ row.length ≤ m ∧ (∀ r ∈ row, Fr r.2 ∧ r.1 ∈ ns) ∧ call (n + 4) 32 [St t k, NS ns, KR.I m] = some (.ok (.val (.lst (row.map rc))), [St t k', NS ns, KR.I m]) := by
  obtain ⟨c, c0, c1, e1⟩ := take_eq (n := n + 1) (k := k) (m := (m : Int) + 1) ht hl h0 (by omega) (by omega)
  obtain ⟨cn, rfl⟩ : ∃ cn : Nat, c = cn := ⟨c.toNat, by omega⟩
  obtain ⟨k', row, v4, v5, b1, b2, b3, b4, e⟩ := row_for (n := n) hn ht hl (m := KR.I m) (ints' (upto cn)) (k + 1) [] none none (by omega) (by simp; omega) (by simp; omega) (fun r h => by cases h)
  simp at b2 b3
  refine ⟨k', row, by omega, by omega, by omega, b4, ?_⟩
  have hi : icl rng1 (acons (frz (ocall (call (n + 3) 23) 2 (clend 0 (cval (KR.bin gadd (getv 2) (KR.ret (.int 1))) (KR.ret []))))) (KR.ret [])) [some (St t k), some (NS ns), some (KR.I m), some (.olst []), none, none] = some (.ok (ints' (upto cn)), [some (St t (k + 1)), some (NS ns), some (KR.I m), some (.olst []), none, none]) :=
    icl_ok (as := [.int cn]) (by simp [takeA, putA, e1]) (upto_rng (by omega))
  have hb : b32 (call (n + 3)) = (seq (sset 3 (dlst (KR.ret []))) (seq (sfor (gnm 4) (icl rng1 (acons (frz (ocall (call (n + 3) 23) 2 (clend 0 (cval (KR.bin gadd (getv 2) (KR.ret (.int 1))) (KR.ret []))))) (KR.ret []))) (BR (call (n + 3)))) (sret (val (getv 3))))) := rfl
  rw [show n + 4 = (n + 3) + 1 from rfl, call]
  simp only [bodies]
  rw [hb]
  clear hb
  generalize icl rng1 _ = Z at hi ⊢
  generalize BR (call (n + 3)) = B at e ⊢
  generalize ints' (upto cn) = U at e hi
  have e' : forL (gnm 4) B U [0] [some (St t (k + 1)), some (NS ns), some (KR.I m), some (.olst []), none, none] = _ := e
  generalize row.map rc = R at e' ⊢
  unfold runD
  simp [lockOf, backs, hi, e']
theorem head_sl {ds : List D} {c : Nat} (h : c ≤ ds.length) : gsl none (some (c : Int)) (.lst ds) = some (.lst (ds.take c)) := by
  show some (D.lst (cutD ds none (some (c : Int)))) = _
  unfold cutD
  rw [HT.sIx_nat, HT.sIx_none, Nat.min_eq_left h, Nat.sub_zero, List.drop_zero]
theorem equal_int {n : Nat} {a : Int} : call (n + 1) 22 [KR.I a, KR.I a] = some (.ok (.val (.bl true)), [KR.I a, KR.I a]) := by
  simp [call, bodies, runD, b22, lockOf, backs, gisN, gisi, gnot]
theorem equal_str {n : Nat} {a : Str} : call (n + 1) 22 [.val (.str a), .val (.str a)] = some (.ok (.val (.bl true)), [.val (.str a), .val (.str a)]) := by
  simp [call, bodies, runD, b22, lockOf, backs, gisN, gisi, gnot]
theorem equal_non {n : Nat} : call (n + 1) 22 [.val .non, .val .non] = some (.ok (.val (.bl true)), [.val .non, .val .non]) := by
  simp [call, bodies, runD, b22, lockOf, backs, gisN, gisi, gnot]
abbrev BE (cc : Nat → Cl) : S := (sif (tnot (tstV (frz (ocall (cc 22) 2 (cval (KR.bin gix (getv 0) (getv 2)) (cval (KR.bin gix (getv 1) (getv 2)) (KR.ret []))))))) (sret (val (KR.ret (.bl false)))) skip)
theorem equal_for {cc : Nat → Cl} {ds : List D} (h : ∀ d ∈ ds, cc 22 [.val d, .val d] = some (.ok (.val (.bl true)), [.val d, .val d])) : ∀ (xs : List Int) (u : Option RV), (∀ i ∈ xs, 0 ≤ i ∧ i < ds.length) → ∃ u' : Option RV, forL (gnm 2) (BE cc) (ints' xs) [] [some (.val (.tup ds)), some (.val (.tup ds)), u] = some (.ok .nx, [some (.val (.tup ds)), some (.val (.tup ds)), u'])
  | [], u, _ => ⟨u, rfl⟩
  | i :: xs, u, hx => by
    obtain ⟨h0, h1⟩ := hx i List.mem_cons_self
    obtain ⟨u', e⟩ := equal_for h xs (some (KR.I i)) fun j hj => hx j (List.mem_cons_of_mem _ hj)
    refine ⟨u', ?_⟩
    rw [← e]
    have g := atI_int (xs := ds) h0 h1
    have z := h _ (List.getElem_mem (l := ds) (n := i.toNat) (by omega))
    refine forL_nx (ρ1 := [some (.val (.tup ds)), some (.val (.tup ds)), some (KR.I i)]) (by simp) ?_
    simp [g, takeA, putA, z]
theorem hRx {ds : List D} (hl : ds.length ≤ 1000) : okR (ds.length : Int) := ⟨by omega, by omega⟩
theorem equal_rng {ds : List D} {R : List Int} (hR : rng1 [.int (ds.length : Int)] = some (ints' R)) :
  icl rng1 (acons (cal (f1 glen) (acons (getv 1) (KR.ret []))) (KR.ret [])) [some (.val (.tup ds)), some (.val (.tup ds)), none] = some (.ok (ints' R), [some (.val (.tup ds)), some (.val (.tup ds)), none]) := icl_ok (as := [.int ds.length]) (by simp) hR
theorem equal_body {ds : List D} {Z : M (List D)} {R : List Int} {b : S} {u' : Option RV} (hi : Z [some (.val (.tup ds)), some (.val (.tup ds)), none] = some (.ok (ints' R), [some (.val (.tup ds)), some (.val (.tup ds)), none])) (e : forL (gnm 2) b (ints' R) [] [some (.val (.tup ds)), some (.val (.tup ds)), none] = some (.ok .nx, [some (.val (.tup ds)), some (.val (.tup ds)), u'])) :
  (seq (sif (tst (una gisN (getv 1))) (sret (val (una gisN (getv 0)))) skip)
  (seq (sif (tstV (una (gisi .bool) (getv 1))) (sret (val (vand (una (gisi .bool) (getv 0)) (KR.bin geq (getv 0) (getv 1))))) skip)
  (seq (sif (tstV (una (gisi .int) (getv 1))) (sret (val (vand (una (gisi .int) (getv 0)) (vand (una gnot (una (gisi .bool) (getv 0))) (KR.bin geq (getv 0) (getv 1)))))) skip)
  (seq (sif (tstV (una (gisi .str) (getv 1))) (sret (val (vand (una (gisi .str) (getv 0)) (KR.bin geq (getv 0) (getv 1))))) skip)
  (seq (sif (tand (tstV (una (gisi .tuple) (getv 1))) (tnot (tstV (una (gisi .tuple) (getv 0))))) (sret (val (KR.ret (.bl false)))) skip)
  (seq (sif (tand (tstV (una (gisi .list) (getv 1))) (tnot (tstV (una (gisi .list) (getv 0))))) (sret (val (KR.ret (.bl false)))) skip)
  (seq (sif (tst (KR.bin gne (cal (f1 glen) (acons (getv 0) (KR.ret []))) (cal (f1 glen) (acons (getv 1) (KR.ret []))))) (sret (val (KR.ret (.bl false)))) skip)
  (seq (sfor (gnm 2) Z b)
  (sret (val (KR.ret (.bl true)))))))))))) [] [some (.val (.tup ds)), some (.val (.tup ds)), none] = some (.ok (.ret (.val (.bl true))), [some (.val (.tup ds)), some (.val (.tup ds)), u']) := by
  have n0 : gisN (.tup ds) = some (.bl false) := rfl
  have n1 : ∀ T : Ty, gisi T (.tup ds) = some (.bl (match T with | .tuple => true | _ => false)) := fun T => rfl
  simp [n0, n1, hi, e]
theorem equal_tup {n : Nat} {ds : List D} (hl : ds.length ≤ 1000) (h : ∀ d ∈ ds, call n 22 [.val d, .val d] = some (.ok (.val (.bl true)), [.val d, .val d])) : call (n + 1) 22 [.val (.tup ds), .val (.tup ds)] = some (.ok (.val (.bl true)), [.val (.tup ds), .val (.tup ds)]) := by
  obtain ⟨R, hR, hm⟩ : ∃ R : List Int, rng1 [.int (ds.length : Int)] = some (ints' R) ∧ ∀ i ∈ R, 0 ≤ i ∧ i < ds.length := ⟨(List.range (ds.length : Int).toNat).map fun (i : Nat) => (i : Int), by rw [rng1, if_pos (hRx hl), rng_ints], fun p hp => by
    obtain ⟨i, hi, rfl⟩ := List.mem_map.mp hp
    have := List.mem_range.mp hi
    omega⟩
  obtain ⟨u', e⟩ := equal_for (cc := call n) h R none hm
  have e2 : b22 (call n) [] [some (.val (.tup ds)), some (.val (.tup ds)), none] = _ := equal_body (equal_rng hR) e
  rw [call]
  simp only [bodies]
  unfold runD
  simp [lockOf, backs, e2]
end My

set_option Elab.async false
set_option linter.all false
set_option maxRecDepth 100000
namespace My
open PySem L2 KR
def isTup : D → Bool
  | .tup _ => true
  | _ => false
def kids : Q → List Q
  | .now => []
  | .nothing => []
  | .is _ => []
  | .one _ a => [a]
  | .two _ a b => [a, b]
  | .iff a b c => [a, b, c]
  | .num _ _ a => [a]
  | .circ _ _ a => [a]
theorem toD_is : ∀ q : Q, ∃ w ds, q.toD = .tup (.str w :: ds)
  | .now => ⟨_, _, by rw [Q.toD]⟩
  | .nothing => ⟨_, _, by rw [Q.toD]⟩
  | .is _ => ⟨_, _, by rw [Q.toD]⟩
  | .one _ _ => ⟨_, _, by rw [Q.toD]⟩
  | .two _ _ _ => ⟨_, _, by rw [Q.toD]⟩
  | .iff _ _ _ => ⟨_, _, by rw [Q.toD]⟩
  | .num _ _ _ => ⟨_, _, by rw [Q.toD]⟩
  | .circ _ _ _ => ⟨_, _, by rw [Q.toD]⟩
theorem isi_q (q : Q) : gisi .tuple q.toD = some (.bl true) := by
  obtain ⟨w, ds, e⟩ := toD_is q
  rw [e]
  rfl
theorem q_all {P : D → Option D → Prop} {g : Q → D} (q : Q) (hk : ∀ c ∈ kids q, P c.toD (some (g c))) (hs : ∀ x : Str, P (.str x) none) (hi : ∀ j : Int, P (.int j) none) :
    ∃ w ds rs, q.toD = .tup (.str w :: ds) ∧ ds.length ≤ 3 ∧ All2 P ds rs ∧ rs.filterMap id = (kids q).map g := by
  cases q with
  | now => exact ⟨_, _, [], by rw [Q.toD], by simp, .nil, rfl⟩
  | nothing => exact ⟨_, _, [], by rw [Q.toD], by simp, .nil, rfl⟩
  | is x => exact ⟨_, _, [none], by rw [Q.toD], by simp, .cons (hs x) .nil, rfl⟩
  | one w a => exact ⟨_, _, [some (g a)], by rw [Q.toD], by simp, .cons (hk a (by simp [kids])) .nil, rfl⟩
  | two w a b => exact ⟨_, _, [some (g a), some (g b)], by rw [Q.toD], by simp, .cons (hk a (by simp [kids])) (.cons (hk b (by simp [kids])) .nil), rfl⟩
  | iff a b c => exact ⟨_, _, [some (g a), some (g b), some (g c)], by rw [Q.toD], by simp, .cons (hk a (by simp [kids])) (.cons (hk b (by simp [kids])) (.cons (hk c (by simp [kids])) .nil)), rfl⟩
  | num w j a => exact ⟨_, _, [none, some (g a)], by rw [Q.toD], by simp, .cons (hi j) (.cons (hk a (by simp [kids])) .nil), rfl⟩
  | circ i j a => exact ⟨_, _, [none, none, some (g a)], by rw [Q.toD], by simp, .cons (hi i) (.cons (hi j) (.cons (hk a (by simp [kids])) .nil)), rfl⟩
theorem kids_len (q : Q) : (kids q).length ≤ 3 := by cases q <;> simp [kids]
theorem kids_ok {m : Nat} {q : Q} (h : q.ok (m + 1)) : ∀ c ∈ kids q, c.ok m := by
  cases q with
  | now => intro c hc; cases hc
  | nothing => intro c hc; cases hc
  | is x => intro c hc; cases hc
  | one w a => intro c hc; simp [kids] at hc; subst hc; exact h.2
  | two w a b => intro c hc; simp [kids] at hc; rcases hc with rfl | rfl; exact h.2.1; exact h.2.2
  | iff a b d => intro c hc; simp [kids] at hc; rcases hc with rfl | rfl | rfl; exact h.1; exact h.2.1; exact h.2.2
  | num w j a => intro c hc; simp [kids] at hc; subst hc; exact h.2
  | circ i j a => intro c hc; simp [kids] at hc; subst hc; exact h.2.2
theorem tail_of {w : Str} {ds : List D} : gsl (some 1) none (.tup (.str w :: ds)) = some (.tup ds) := cut_tail (ds := [.str w]) (es := ds)
theorem children_comp (q : Q) : lcomp [1] (its (cut (getv 0) (par (KR.ret (.int 1))) (KR.ret none))) (gnm 1) (tstV (una (gisi .tuple) (getv 1))) (getv 1) [some (.val q.toD), none] = some (.ok (.olst ((kids q).map Q.toD)), [some (.val q.toD), none]) := by
  obtain ⟨w, ds, rs, e, hl, ha, hr⟩ := q_all (g := Q.toD) (P := fun x r => (tstV (una (gisi .tuple) (getv 1))) (([some (.val q.toD), none] : KR.Env).set 1 (some (.val x))) = some (.ok r.isSome, ([some (.val q.toD), none] : KR.Env).set 1 (some (.val x))) ∧
            ∀ y, r = some y → (getv 1) (([some (.val q.toD), none] : KR.Env).set 1 (some (.val x))) = some (.ok y, ([some (.val q.toD), none] : KR.Env).set 1 (some (.val x)))) q
    (fun c _ => ⟨by simp [isi_q], fun y h => by cases h; simp⟩) (fun x => ⟨by simp [gisi], fun y h => by cases h⟩) (fun x => ⟨by simp [gisi], fun y h => by cases h⟩)
  have z := lcomp_rel (it := its (cut (getv 0) (par (KR.ret (.int 1))) (KR.ret none))) (ρ0 := [some (.val q.toD), none]) (ρ := [some (.val q.toD), none]) (by rw [e]; simp [asI, tail_of]) (by simp) (by rfl) (by rw [size_line]; omega) ha
  rw [hr] at z
  exact z
theorem call2 {k : Nat} {rs : List RV} : call (k + 1) 9 rs = runD 1 2 (b9 (call k)) rs := by
  rw [call]
  simp only [bodies]
theorem children_ok {k : Nat} (q : Q) : call (k + 1) 9 [.val q.toD] = some (.ok (.olst ((kids q).map Q.toD)), [.val q.toD]) := by
  have z := children_comp q
  rw [call2]
  unfold runD b9
  generalize lcomp _ _ _ _ _ = Z at z ⊢
  generalize q.toD = d at z ⊢
  generalize (kids q).map Q.toD = R at z ⊢
  simp [lockOf, backs, z]
def Q.parts : Q → Nat
  | .now => 1
  | .nothing => 1
  | .is _ => 1
  | .one _ a => 1 + a.parts
  | .two _ a b => 1 + (a.parts + b.parts)
  | .iff a b c => 1 + (a.parts + (b.parts + c.parts))
  | .num _ _ a => 1 + a.parts
  | .circ _ _ a => 1 + a.parts
theorem parts_kids (q : Q) : q.parts = 1 + ((kids q).map Q.parts).sum := by cases q <;> simp [kids, Q.parts]
theorem gsum_nat (l : List Nat) : gsum (.lst (l.map fun n => D.int (n : Nat))) = some (.int (l.sum : Nat)) := by
  have h : dints (l.map fun n => D.int (n : Nat)) = some (l.map fun n => ((n : Nat) : Int)) := by
    induction l with
    | nil => rfl
    | cons x l ih => rw [List.map_cons, dints, ih]; rfl
  unfold gsum
  dsimp only
  rw [h]
  have h2 : (l.map fun n => ((n : Nat) : Int)).sum = ((l.sum : Nat) : Int) := by
    clear h
    induction l with
    | nil => rfl
    | cons x l ih => rw [List.map_cons, List.sum_cons, List.sum_cons, ih]; omega
  rw [← h2]
  rfl
theorem call3 {k : Nat} {rs : List RV} : call (k + 1) 10 rs = runD 1 2 (b10 (call k)) rs := by
  rw [call]
  simp only [bodies]
theorem parts_ok : ∀ (m : Nat) (q : Q), q.ok m → ∀ k, call (m + 1 + k) 10 [.val q.toD] = some (.ok (KR.I q.parts), [.val q.toD])
  | 0, _, h, _ => h.elim
  | m + 1, q, h, k => by
    have ih : ∀ c ∈ kids q, call (m + 1 + k) 10 [.val c.toD] = some (.ok (KR.I c.parts), [.val c.toD]) := fun c hc => parts_ok m c (kids_ok h c hc) k
    have c2 := children_ok (k := m + k) q
    rw [show m + k + 1 = m + 1 + k by omega] at c2
    have z := lcomp_rel (it := its (frz (ocall (call (m + 1 + k) 9) 1 (cval (getv 0) (KR.ret []))))) (t := KR.ret true) (elt := frz (ocall (call (m + 1 + k) 10) 1 (cval (getv 1) (KR.ret [])))) (v := 1) (ρ0 := [some (.val q.toD), none]) (ρ := [some (.val q.toD), none]) (xs := (kids q).map Q.toD) (rs := (kids q).map fun c => some (.int (c.parts : Nat)))
      (by
        generalize (kids q).map Q.toD = R at c2 ⊢
        simp [takeA, putA, c2]) (by simp) (by rfl) (by rw [size_line, List.length_map]; have := kids_len q; omega)
      (all2_map _ fun c hc => ⟨by simp, fun y hy => by
        cases hy
        have i := ih c hc
        generalize c.toD = d at i ⊢
        simp [takeA, putA, i]⟩)
    have e3 : ((kids q).map fun c => (some (.int (c.parts : Nat)) : Option D)).filterMap id = ((kids q).map Q.parts).map fun n => .int (n : Nat) := by
      rw [List.filterMap_map, List.map_map]
      induction kids q with
      | nil => rfl
      | cons x l ih2 => rw [List.filterMap_cons_some (b := .int (x.parts : Nat)) (by rfl), ih2, List.map_cons]; rfl
    rw [e3] at z
    have g := gsum_nat ((kids q).map Q.parts)
    rw [show m + 1 + 1 + k = (m + 1 + k) + 1 by omega, call3, parts_kids q]
    unfold runD b10
    generalize lcomp _ _ _ _ _ = Z at z ⊢
    generalize (((kids q).map Q.parts).map fun n => D.int (n : Nat)) = ys at z g
    generalize ((kids q).map Q.parts).sum = s at g ⊢
    generalize q.toD = d at z ⊢
    simp [lockOf, backs, z, g]
abbrev Cell := Option Num × Nat × List Num
def cd (c : Cell) : D := .tup [opt c.1, .int (c.2.1 : Nat), .tup (c.2.2.map fr)]
def E0 : Cell := (none, 0, [])
theorem parts_le : ∀ (m : Nat) (q : Q), q.ok m → q.parts ≤ 4 ^ m
  | 0, _, h => h.elim
  | m + 1, q, h => by
    have hp : 0 < 4 ^ m := Nat.pow_pos (by decide)
    have e : 4 ^ (m + 1) = 4 * 4 ^ m := by rw [Nat.pow_succ, Nat.mul_comm]
    have k := kids_ok h
    have ih := fun c hc => parts_le m c (k c hc)
    cases q with
    | now => rw [Q.parts]; omega
    | nothing => rw [Q.parts]; omega
    | is x => rw [Q.parts]; omega
    | one w a => have := ih a (by simp [kids]); rw [Q.parts]; omega
    | two w a b => have := ih a (by simp [kids]); have := ih b (by simp [kids]); rw [Q.parts]; omega
    | iff a b c => have := ih a (by simp [kids]); have := ih b (by simp [kids]); have := ih c (by simp [kids]); rw [Q.parts]; omega
    | num w j a => have := ih a (by simp [kids]); rw [Q.parts]; omega
    | circ i j a => have := ih a (by simp [kids]); rw [Q.parts]; omega
theorem upto_rng2 {n : Nat} (h : n ≤ 10000000) : rng1 [.int (n : Int)] = some (ints' (upto n)) := by
  rw [rng1, if_pos ⟨by omega, by omega⟩, rng_ints]
  rfl
theorem call4 {k : Nat} {rs : List RV} : call (k + 1) 11 rs = runD 1 2 (b11 (call k)) rs := by
  rw [call]
  simp only [bodies]
theorem first_cells_ok {m k : Nat} {q : Q} (h : q.ok m) (hm : m ≤ 11) : call (m + 2 + k) 11 [.val q.toD] = some (.ok (.olst (List.replicate q.parts (cd E0))), [.val q.toD]) := by
  have hp := parts_le m q h
  have hp2 : 4 ^ m ≤ 4 ^ 11 := Nat.pow_le_pow_right (by decide) hm
  have p := parts_ok m q h k
  have hR := upto_rng2 (n := q.parts) (by omega)
  have hi : icl rng1 (acons (frz (ocall (call (m + 1 + k) 10) 1 (cval (getv 0) (KR.ret [])))) (KR.ret [])) [some (.val q.toD), none] = some (.ok (ints' (upto q.parts)), [some (.val q.toD), none]) :=
    icl_ok (as := [.int (q.parts : Nat)]) (by
      generalize q.toD = d at p ⊢
      generalize q.parts = n at p ⊢
      simp [takeA, putA, p]) hR
  have z := lcomp_pure (t := KR.ret true) (elt := KR.ret (.tup [.non, .int 0, .tup []])) (p := fun _ => true) (f := fun _ => cd E0) (v := 1) hi (by simp) (by rfl) (by rw [size_line]; simp; omega) (fun x _ => by simp) (fun x _ _ => rfl)
  have e2 : ((ints' (upto q.parts)).filter fun _ => true).map (fun _ => cd E0) = List.replicate q.parts (cd E0) := by
    rw [List.filter_eq_self.mpr fun _ _ => rfl]
    rw [List.map_const']
    simp
  rw [e2] at z
  rw [show m + 2 + k = (m + 1 + k) + 1 by omega, call4]
  unfold runD b11
  generalize lcomp _ _ _ _ _ = Z at z ⊢
  generalize List.replicate q.parts (cd E0) = R at z ⊢
  generalize q.toD = d at z ⊢
  simp [lockOf, backs, z]
end My

set_option Elab.async false
set_option linter.all false
set_option maxRecDepth 100000
namespace My
open PySem L2 KR
inductive CT where
  | n0 (c : Cell)
  | n1 (c : Cell) (a : CT)
  | n2 (c : Cell) (a b : CT)
  | n3 (c : Cell) (a b d : CT)
def CT.hd : CT → Cell
  | .n0 c => c
  | .n1 c _ => c
  | .n2 c _ _ => c
  | .n3 c _ _ _ => c
def CT.kids : CT → List CT
  | .n0 _ => []
  | .n1 _ a => [a]
  | .n2 _ a b => [a, b]
  | .n3 _ a b d => [a, b, d]
def CT.flat : CT → List Cell
  | .n0 c => [c]
  | .n1 c a => c :: a.flat
  | .n2 c a b => c :: (a.flat ++ b.flat)
  | .n3 c a b d => c :: (a.flat ++ (b.flat ++ d.flat))
theorem flat_kids (t : CT) : t.flat = t.hd :: (t.kids.map CT.flat).flatten := by cases t <;> simp [CT.flat, CT.hd, CT.kids]
def firstT : Q → CT
  | .now => .n0 E0
  | .nothing => .n0 E0
  | .is _ => .n0 E0
  | .one _ a => .n1 E0 (firstT a)
  | .two _ a b => .n2 E0 (firstT a) (firstT b)
  | .iff a b c => .n3 E0 (firstT a) (firstT b) (firstT c)
  | .num _ _ a => .n1 E0 (firstT a)
  | .circ _ _ a => .n1 E0 (firstT a)
structure HOk (c : Cell) : Prop where
  f : ∀ x, c.1 = some x → Fr x
  g : Good c.2.2
  l : c.2.2.length ≤ 100
def Fits : Q → CT → Prop
  | .now, .n0 c => HOk c
  | .nothing, .n0 c => HOk c
  | .is _, .n0 c => HOk c
  | .one _ a, .n1 c t => HOk c ∧ Fits a t
  | .two _ a b, .n2 c t u => HOk c ∧ Fits a t ∧ Fits b u
  | .iff a b d, .n3 c t u v => HOk c ∧ Fits a t ∧ Fits b u ∧ Fits d v
  | .num _ j a, .n1 c t => HOk c ∧ c.2.1 ≤ j ∧ Fits a t
  | .circ i _ a, .n1 c t => HOk c ∧ c.2.1 < i ∧ Fits a t
  | _, _ => False
def trim (w : Str) (j : Nat) (A : List Num) : List Num := if w = "great" then A.drop (A.length - j) else A.take j
def toldF (w : Str) (j : Nat) (A : List Num) : Option Num := if A.length = j then (if w = "great" then A.head? else A.getLast?) else none
def insO (o : Option Num) (A : List Num) : List Num := match o with
  | none => A
  | some z => ins z A
def cmpF (w : Str) (o p : Option Num) : Option Num := match o, p with
  | some x, some y => if w = "less" then (if lt x y then some x else none) else (if x = y then some x else none)
  | _, _ => none
def ownC (nm : Str) (x : Num) (q : Q) (c : Cell) (T : List (Option Num)) (H : List (Option Num)) : Cell :=
  let t0 := T.getD 0 none
  let t1 := T.getD 1 none
  let t2 := T.getD 2 none
  match q with
  | .now => (some x, c.2)
  | .nothing => (none, c.2)
  | .is y => (if nm = y then some x else none, c.2)
  | .one w _ => (if w = "last" then (if t0.isNone then c.1 else t0) else if w = "first" then (if c.1.isNone then t0 else c.1) else H.getD 0 none, c.2)
  | .two w _ _ => (if w = "less" ∨ w = "same" then cmpF w t0 t1 else t1, c.2)
  | .iff _ _ _ => (if t0.isNone then t2 else t1, c.2)
  | .num w j _ => if w = "times" then
      (if (if t0.isSome then min (c.2.1 + 1) j else c.2.1) = j then some x else none, if t0.isSome then min (c.2.1 + 1) j else c.2.1, c.2.2)
    else (toldF w j (trim w j (insO t0 c.2.2)), c.2.1, trim w j (insO t0 c.2.2))
  | .circ i j _ => (if (if t0.isSome then (c.2.1 + 1) % i else c.2.1) = j then some x else none, if t0.isSome then (c.2.1 + 1) % i else c.2.1, c.2.2)
def hearT (nm : Str) (x : Num) : Q → CT → CT
  | .now, .n0 c => .n0 (ownC nm x .now c [] [])
  | .nothing, .n0 c => .n0 (ownC nm x .nothing c [] [])
  | .is y, .n0 c => .n0 (ownC nm x (.is y) c [] [])
  | .one w a, .n1 c t => .n1 (ownC nm x (.one w a) c [(hearT nm x a t).hd.1] [t.hd.1]) (hearT nm x a t)
  | .two w a b, .n2 c t u =>
    let t' := hearT nm x a t
    let u' := if w = "less" ∨ w = "same" then hearT nm x b u else if w = "since" then (if t'.hd.1.isSome then firstT b else hearT nm x b u) else (if t'.hd.1.isSome then hearT nm x b u else u)
    .n2 (ownC nm x (.two w a b) c [t'.hd.1, u'.hd.1] [t.hd.1, u.hd.1]) t' u'
  | .iff a b d, .n3 c t u v => .n3 (ownC nm x (.iff a b d) c [(hearT nm x a t).hd.1, (hearT nm x b u).hd.1, (hearT nm x d v).hd.1] [t.hd.1, u.hd.1, v.hd.1]) (hearT nm x a t) (hearT nm x b u) (hearT nm x d v)
  | .num w j a, .n1 c t => .n1 (ownC nm x (.num w j a) c [(hearT nm x a t).hd.1] [t.hd.1]) (hearT nm x a t)
  | .circ i j a, .n1 c t => .n1 (ownC nm x (.circ i j a) c [(hearT nm x a t).hd.1] [t.hd.1]) (hearT nm x a t)
  | _, t => t
theorem hok_e0 : HOk E0 := ⟨fun x h => (by cases h), good_nil, by simp [E0]⟩
theorem first_fits : ∀ (m : Nat) (q : Q), q.ok m → Fits q (firstT q)
  | 0, _, h => h.elim
  | _ + 1, .now, _ => hok_e0
  | _ + 1, .nothing, _ => hok_e0
  | _ + 1, .is _, _ => hok_e0
  | m + 1, .one _ a, h => ⟨hok_e0, first_fits m a h.2⟩
  | m + 1, .two _ a b, h => ⟨hok_e0, first_fits m a h.2.1, first_fits m b h.2.2⟩
  | m + 1, .iff a b c, h => ⟨hok_e0, first_fits m a h.1, first_fits m b h.2.1, first_fits m c h.2.2⟩
  | m + 1, .num _ _ a, h => ⟨hok_e0, Nat.zero_le _, first_fits m a h.2⟩
  | m + 1, .circ i _ a, h => ⟨hok_e0, (by have := h.1; show 0 < i; omega), first_fits m a h.2.2⟩
theorem fits_hd : ∀ {q : Q} {t : CT}, Fits q t → HOk t.hd
  | .now, .n0 _, h => h
  | .nothing, .n0 _, h => h
  | .is _, .n0 _, h => h
  | .one _ _, .n1 _ _, h => h.1
  | .two _ _ _, .n2 _ _ _, h => h.1
  | .iff _ _ _, .n3 _ _ _ _, h => h.1
  | .num _ _ _, .n1 _ _, h => h.1
  | .circ _ _ _, .n1 _ _, h => h.1
  | .now, .n1 _ _, h => h.elim
  | .now, .n2 _ _ _, h => h.elim
  | .now, .n3 _ _ _ _, h => h.elim
  | .nothing, .n1 _ _, h => h.elim
  | .nothing, .n2 _ _ _, h => h.elim
  | .nothing, .n3 _ _ _ _, h => h.elim
  | .is _, .n1 _ _, h => h.elim
  | .is _, .n2 _ _ _, h => h.elim
  | .is _, .n3 _ _ _ _, h => h.elim
  | .one _ _, .n0 _, h => h.elim
  | .one _ _, .n2 _ _ _, h => h.elim
  | .one _ _, .n3 _ _ _ _, h => h.elim
  | .two _ _ _, .n0 _, h => h.elim
  | .two _ _ _, .n1 _ _, h => h.elim
  | .two _ _ _, .n3 _ _ _ _, h => h.elim
  | .iff _ _ _, .n0 _, h => h.elim
  | .iff _ _ _, .n1 _ _, h => h.elim
  | .iff _ _ _, .n2 _ _ _, h => h.elim
  | .num _ _ _, .n0 _, h => h.elim
  | .num _ _ _, .n2 _ _ _, h => h.elim
  | .num _ _ _, .n3 _ _ _ _, h => h.elim
  | .circ _ _ _, .n0 _, h => h.elim
  | .circ _ _ _, .n2 _ _ _, h => h.elim
  | .circ _ _ _, .n3 _ _ _ _, h => h.elim
theorem good_sub {A B : List Num} (G : Good A) (h : B.Sublist A) : Good B := ⟨fun y hy => G.f y (h.subset hy), G.s.sublist h⟩
theorem trim_sub {w : Str} {j : Nat} {A : List Num} : (trim w j A).Sublist A := by
  unfold trim
  split
  · exact List.drop_sublist _ _
  · exact List.take_sublist _ _
theorem trim_len {w : Str} {j : Nat} {A : List Num} : (trim w j A).length ≤ j := by
  unfold trim
  split
  · rw [List.length_drop]; omega
  · rw [List.length_take]; omega
theorem insO_good {o : Option Num} {A : List Num} (ho : ∀ x, o = some x → Fr x) (G : Good A) : Good (insO o A) := by
  cases o with
  | none => exact G
  | some z => exact ins_good (ho z rfl) G
theorem told_fr {w : Str} {j : Nat} {A : List Num} (G : Good A) : ∀ x, toldF w j A = some x → Fr x := by
  intro x h
  unfold toldF at h
  split at h
  · split at h
    · exact G.f x (List.mem_of_mem_head? h)
    · exact G.f x (List.mem_of_getLast? h)
  · cases h
theorem cmp_fr {w : Str} {o p : Option Num} (ho : ∀ x, o = some x → Fr x) : ∀ x, cmpF w o p = some x → Fr x := by
  intro x h
  unfold cmpF at h
  cases o with
  | none => cases h
  | some u =>
    cases p with
    | none => cases h
    | some v =>
      have hu := ho u rfl
      dsimp only at h
      have : some u = some x := by
        split at h <;> split at h <;> first | exact h | cases h
      rwa [← Option.some.inj this]
theorem ite_some {p : Prop} [Decidable p] {x y : Num} (h : (if p then some x else none) = some y) : x = y := by
  split at h
  · exact Option.some.inj h
  · cases h
theorem hear_fits {nm : Str} {x : Num} (hx : Fr x) : ∀ (m : Nat) (q : Q), q.ok m → ∀ t, Fits q t → Fits q (hearT nm x q t)
  | 0, _, h, _, _ => h.elim
  | _ + 1, .now, _, .n0 c, h => ⟨fun y e => (by cases e; exact hx), h.g, h.l⟩
  | _ + 1, .nothing, _, .n0 c, h => ⟨fun y e => (by cases e), h.g, h.l⟩
  | _ + 1, .is z, _, .n0 c, h => ⟨fun y e => (by
      have e' : (if nm = z then some x else none) = some y := e
      split at e'
      · cases e'; exact hx
      · cases e'), h.g, h.l⟩
  | m + 1, .one w a, k, .n1 c t, ⟨h1, h2⟩ => by
    have i := hear_fits (nm := nm) hx m a k.2 t h2
    refine ⟨⟨fun y e => ?_, h1.g, h1.l⟩, i⟩
    have e' : (if w = "last" then (if (hearT nm x a t).hd.1.isNone then c.1 else (hearT nm x a t).hd.1) else if w = "first" then (if c.1.isNone then (hearT nm x a t).hd.1 else c.1) else t.hd.1) = some y := e
    split at e'
    · split at e'
      · exact h1.f y e'
      · exact (fits_hd i).f y e'
    · split at e'
      · split at e'
        · exact (fits_hd i).f y e'
        · exact h1.f y e'
      · exact (fits_hd h2).f y e'
  | m + 1, .two w a b, k, .n2 c t u, ⟨h1, h2, h3⟩ => by
    have i := hear_fits (nm := nm) hx m a k.2.1 t h2
    have j := hear_fits (nm := nm) hx m b k.2.2 u h3
    have f0 := first_fits m b k.2.2
    have j' : Fits b (if w = "less" ∨ w = "same" then hearT nm x b u else if w = "since" then (if (hearT nm x a t).hd.1.isSome then firstT b else hearT nm x b u) else (if (hearT nm x a t).hd.1.isSome then hearT nm x b u else u)) := by
      split
      · exact j
      · split
        · split
          · exact f0
          · exact j
        · split
          · exact j
          · exact h3
    refine ⟨⟨fun y e => ?_, h1.g, h1.l⟩, i, j'⟩
    have e' : (if w = "less" ∨ w = "same" then cmpF w (hearT nm x a t).hd.1 (CT.hd (if w = "less" ∨ w = "same" then hearT nm x b u else if w = "since" then (if (hearT nm x a t).hd.1.isSome then firstT b else hearT nm x b u) else (if (hearT nm x a t).hd.1.isSome then hearT nm x b u else u))).1 else (CT.hd (if w = "less" ∨ w = "same" then hearT nm x b u else if w = "since" then (if (hearT nm x a t).hd.1.isSome then firstT b else hearT nm x b u) else (if (hearT nm x a t).hd.1.isSome then hearT nm x b u else u))).1) = some y := e
    by_cases q : w = "less" ∨ w = "same"
    · rw [if_pos q] at e'
      exact cmp_fr (fits_hd i).f y e'
    · rw [if_neg q] at e'
      exact (fits_hd j').f y e'
  | m + 1, .iff a b d, k, .n3 c t u v, ⟨h1, h2, h3, h4⟩ => by
    have i := hear_fits (nm := nm) hx m a k.1 t h2
    have j := hear_fits (nm := nm) hx m b k.2.1 u h3
    have l := hear_fits (nm := nm) hx m d k.2.2 v h4
    refine ⟨⟨fun y e => ?_, h1.g, h1.l⟩, i, j, l⟩
    have e' : (if (hearT nm x a t).hd.1.isNone then (hearT nm x d v).hd.1 else (hearT nm x b u).hd.1) = some y := e
    split at e'
    · exact (fits_hd l).f y e'
    · exact (fits_hd j).f y e'
  | m + 1, .num w j a, k, .n1 c t, ⟨h1, h2, h3⟩ => by
    have i := hear_fits (nm := nm) hx m a k.2 t h3
    have hj : j ≤ 3 := by rcases k.1 with ⟨_, _, h⟩ | ⟨_, _, h⟩ <;> omega
    show Fits (.num w j a) (.n1 (ownC nm x (.num w j a) c [(hearT nm x a t).hd.1] [t.hd.1]) (hearT nm x a t))
    by_cases q : w = "times"
    · have e : ownC nm x (.num w j a) c [(hearT nm x a t).hd.1] [t.hd.1] = (if (if (hearT nm x a t).hd.1.isSome then min (c.2.1 + 1) j else c.2.1) = j then some x else none, if (hearT nm x a t).hd.1.isSome then min (c.2.1 + 1) j else c.2.1, c.2.2) := by
        simp [ownC, q]
      rw [e]
      refine ⟨⟨fun y e => ?_, h1.g, h1.l⟩, ?_, i⟩
      · rw [← ite_some e]
        exact hx
      · dsimp only
        split
        · omega
        · exact h2
    · have e : ownC nm x (.num w j a) c [(hearT nm x a t).hd.1] [t.hd.1] = (toldF w j (trim w j (insO (hearT nm x a t).hd.1 c.2.2)), c.2.1, trim w j (insO (hearT nm x a t).hd.1 c.2.2)) := by
        simp [ownC, q]
      rw [e]
      have G := good_sub (insO_good (fits_hd i).f h1.g) (trim_sub (w := w) (j := j))
      have l := trim_len (w := w) (j := j) (A := insO (hearT nm x a t).hd.1 c.2.2)
      exact ⟨⟨told_fr G, G, by show (trim w j _).length ≤ 100; omega⟩, h2, i⟩
  | m + 1, .circ j z a, k, .n1 c t, ⟨h1, h2, h3⟩ => by
    have i := hear_fits (nm := nm) hx m a k.2.2 t h3
    have hj : 0 < j := by have := k.1; omega
    refine ⟨⟨fun y e => ?_, h1.g, h1.l⟩, ?_, i⟩
    · have e' : (if (if (hearT nm x a t).hd.1.isSome then (c.2.1 + 1) % j else c.2.1) = z then some x else none) = some y := e
      rw [← ite_some e']
      exact hx
    · show (if (hearT nm x a t).hd.1.isSome then (c.2.1 + 1) % j else c.2.1) < j
      split
      · exact Nat.mod_lt _ hj
      · exact h2
theorem flat_len : ∀ (m : Nat) (q : Q), q.ok m → ∀ t, Fits q t → t.flat.length = q.parts
  | 0, _, h, _, _ => h.elim
  | _ + 1, .now, _, .n0 c, h => rfl
  | _ + 1, .nothing, _, .n0 c, h => rfl
  | _ + 1, .is z, _, .n0 c, h => rfl
  | m + 1, .one w a, k, .n1 c t, ⟨h1, h2⟩ => by
    have := flat_len m a k.2 t h2
    rw [CT.flat, Q.parts, List.length_cons]; omega
  | m + 1, .two w a b, k, .n2 c t u, ⟨h1, h2, h3⟩ => by
    have := flat_len m a k.2.1 t h2
    have := flat_len m b k.2.2 u h3
    rw [CT.flat, Q.parts, List.length_cons, List.length_append]; omega
  | m + 1, .iff a b d, k, .n3 c t u v, ⟨h1, h2, h3, h4⟩ => by
    have := flat_len m a k.1 t h2
    have := flat_len m b k.2.1 u h3
    have := flat_len m d k.2.2 v h4
    rw [CT.flat, Q.parts, List.length_cons, List.length_append, List.length_append]; omega
  | m + 1, .num w j a, k, .n1 c t, ⟨h1, h2, h3⟩ => by
    have := flat_len m a k.2 t h3
    rw [CT.flat, Q.parts, List.length_cons]; omega
  | m + 1, .circ i j a, k, .n1 c t, ⟨h1, h2, h3⟩ => by
    have := flat_len m a k.2.2 t h3
    rw [CT.flat, Q.parts, List.length_cons]; omega
theorem first_flat : ∀ q : Q, (firstT q).flat = List.replicate q.parts E0
  | .now => rfl
  | .nothing => rfl
  | .is _ => rfl
  | .one _ a => by rw [firstT, CT.flat, first_flat a, Q.parts, Nat.add_comm, List.replicate_succ]
  | .two _ a b => by rw [firstT, CT.flat, first_flat a, first_flat b, Q.parts, Nat.add_comm, List.replicate_succ, List.replicate_append_replicate]
  | .iff a b c => by rw [firstT, CT.flat, first_flat a, first_flat b, first_flat c, Q.parts, Nat.add_comm, List.replicate_succ, List.replicate_append_replicate, List.replicate_append_replicate]
  | .num _ _ a => by rw [firstT, CT.flat, first_flat a, Q.parts, Nat.add_comm, List.replicate_succ]
  | .circ _ _ a => by rw [firstT, CT.flat, first_flat a, Q.parts, Nat.add_comm, List.replicate_succ]
end My

set_option Elab.async false
set_option linter.all false
set_option maxRecDepth 100000
namespace My
open PySem L2 KR
theorem cd_0 {c : Cell} : gix (cd c) (.int 0) = some (opt c.1) := rfl
theorem cd_1 {c : Cell} : gix (cd c) (.int 1) = some (.int (c.2.1 : Nat)) := rfl
theorem cd_2 {c : Cell} : gix (cd c) (.int 2) = some (.tup (c.2.2.map fr)) := rfl
theorem cd_mk {o : Option Num} {n : Nat} {A : List Num} : D.tup [opt o, .int (n : Nat), .tup (A.map fr)] = cd (o, n, A) := rfl
theorem isN_fr {u : Num} : gisN (fr u) = some (.bl false) := rfl
theorem notN_fr {u : Num} : gnotN (fr u) = some (.bl true) := rfl
theorem isN_non : gisN .non = some (.bl true) := rfl
theorem notN_non : gnotN .non = some (.bl false) := rfl
theorem pcompared_run {cc : Nat → Cl} {w : Str} {o p : Option Num} (el : ∀ u v, o = some u → p = some v → cc 0 [W u, W v] = some (.ok (.val (.bl (decide (lt u v)))), [W u, W v])) :
    runD 3 3 (b12 cc) [.val (.str w), .val (opt o), .val (opt p)] = some (.ok (.val (opt (cmpF w o p))), [.val (.str w), .val (opt o), .val (opt p)]) := by
  unfold runD b12
  cases o with
  | none => simp [lockOf, backs, takeA, putA, opt_some, opt_none, cmpF, isN_non, isN_fr]
  | some u =>
    cases p with
    | none => simp [lockOf, backs, takeA, putA, opt_some, opt_none, cmpF, isN_non, isN_fr]
    | some v =>
      have l := el u v rfl rfl
      by_cases q : w = "less"
      · subst q
        by_cases q2 : lt u v
        · simp [lockOf, backs, takeA, putA, opt_some, opt_none, cmpF, isN_fr, l, q2]
        · simp [lockOf, backs, takeA, putA, opt_some, opt_none, cmpF, isN_fr, l, q2]
      · by_cases q2 : u = v
        · simp [lockOf, backs, takeA, putA, opt_some, opt_none, cmpF, isN_fr, l, q, q2]
        · simp [lockOf, backs, takeA, putA, opt_some, opt_none, cmpF, isN_fr, l, q, q2]
theorem drop_tp {ds : List D} {c : Nat} (h : c ≤ ds.length) : gsl (some (c : Int)) none (.tup ds) = some (.tup (ds.drop c)) := by
  show some (D.tup (cutD ds (some (c : Int)) none)) = _
  unfold cutD
  rw [HT.sIx_nat, HT.sIx_none, Nat.min_eq_left h, List.take_of_length_le (by rw [List.length_drop]; omega)]
theorem take_tp {ds : List D} {c : Nat} : gsl none (some (c : Int)) (.tup ds) = some (.tup (ds.take c)) := by
  show some (D.tup (cutD ds none (some (c : Int)))) = _
  unfold cutD
  rw [HT.sIx_nat, HT.sIx_none, Nat.sub_zero, List.drop_zero]
  by_cases h : c ≤ ds.length
  · rw [Nat.min_eq_left h]
  · rw [Nat.min_eq_right (by omega), List.take_of_length_le (Nat.le_refl _), List.take_of_length_le (by omega)]
theorem gmax_sub {n j : Nat} : gmax (.int 0) (.int ((n : Int) - j)) = some (.int ((n - j : Nat) : Int)) := by
  show some (D.int (if (n : Int) - j > 0 then (n : Int) - j else 0)) = _
  congr 2
  split <;> omega
theorem gmin_nat {n j : Nat} : gmin (.int (n : Int)) (.int (j : Int)) = some (.int ((min n j : Nat) : Int)) := by
  show some (D.int (if (j : Int) < n then (j : Int) else n)) = _
  congr 2
  split <;> omega
theorem at_last {A : List Num} (h : A ≠ []) : atI (A.map fr) (-1) = some (opt A.getLast?) := opt_last A h
theorem at_head {A : List Num} (h : A ≠ []) : atI (A.map fr) 0 = some (opt A.head?) := opt_head A h
theorem ordered_1 {cc : Nat → Cl} {t : RV} {c : Cell} {o : Option Num} {A : List Num} {v4 : Option RV} (hi : ∀ z, o = some z → cc 1 [W z, T A] = some (.ok (T (ins z A)), [W z, T A])) :
    (sif (tst (una gnotN (getv 2))) (sset 3 (ocall (cc 1) 2 (cval (getv 2) (cval (getv 3) (KR.ret []))))) skip) [] [some t, some (.val (cd c)), some (.val (opt o)), some (T A), v4] = some (.ok .nx, [some t, some (.val (cd c)), some (.val (opt o)), some (T (insO o A)), v4]) := by
  cases o with
  | none => simp [opt_none, notN_non, insO]
  | some z =>
    have i := hi z rfl
    rw [show insO (some z) A = ins z A from rfl]
    generalize A.map fr = A1 at i ⊢
    generalize (ins z A).map fr = A2 at i ⊢
    simp [opt_some, notN_fr, takeA, putA, i]
theorem ordered_2 {w : Str} {j : Nat} {d : D} {c : Cell} {a : RV} {A : List Num} (hj : 1 ≤ j) (hw : w = "great" ∨ w = "least") :
    (seq (sif (tst (KR.bin geq (KR.bin gix (getv 0) (KR.ret (.int 0))) (KR.ret (.str "great")))) (seq (sset 3 (val (cut (getv 3) (par (cal (f2 gmax) (acons (KR.ret (.int 0)) (acons (KR.bin gsub (cal (f1 glen) (acons (getv 3) (KR.ret []))) (KR.bin gix (getv 0) (KR.ret (.int 1)))) (KR.ret []))))) (KR.ret none))))
  (sset 4 (val (ite' (tst (KR.bin geq (cal (f1 glen) (acons (getv 3) (KR.ret []))) (KR.bin gix (getv 0) (KR.ret (.int 1))))) (KR.bin gix (getv 3) (KR.ret (.int 0))) (KR.ret .non))))) (seq (sset 3 (val (cut (getv 3) (KR.ret none) (par (KR.bin gix (getv 0) (KR.ret (.int 1)))))))
  (sset 4 (val (ite' (tst (KR.bin geq (cal (f1 glen) (acons (getv 3) (KR.ret []))) (KR.bin gix (getv 0) (KR.ret (.int 1))))) (KR.bin gix (getv 3) (una gneg (KR.ret (.int 1)))) (KR.ret .non))))))
  (sret (val (dtup (acons (getv 4) (acons (KR.bin gix (getv 1) (KR.ret (.int 1))) (acons (getv 3) (KR.ret [])))))))) [] [some (.val (.tup [.str w, .int j, d])), some (.val (cd c)), some a, some (T A), none] =
      some (.ok (.ret (.val (cd (toldF w j (trim w j A), c.2.1, trim w j A)))), [some (.val (.tup [.str w, .int j, d])), some (.val (cd c)), some a, some (T (trim w j A)), some (.val (opt (toldF w j (trim w j A))))]) := by
  rcases hw with rfl | rfl
  · have e1 : trim "great" j A = A.drop (A.length - j) := by simp [trim]
    have s := drop_tp (ds := A.map fr) (c := A.length - j) (by rw [List.length_map]; omega)
    rw [← List.map_drop, ← e1] at s
    have gm := gmax_sub (n := A.length) (j := j)
    generalize trim "great" j A = B at *
    have e2 : toldF "great" j B = if B.length = j then B.head? else none := by simp [toldF]
    by_cases q : B.length = j
    · have q' : (B.length : Int) = (j : Int) := by omega
      have h0 : B ≠ [] := fun e => by rw [e] at q; simp at q; omega
      have a := at_head h0
      rw [e2, if_pos q]
      simp [gm, asI, s, q', a, cd_1]
      rfl
    · have q' : ¬ (B.length : Int) = (j : Int) := by omega
      rw [e2, if_neg q]
      simp [gm, asI, s, q', cd_1, opt_none]
      rfl
  · have n1 : ¬ ("least" : Str) = "great" := by simp
    have e1 : trim "least" j A = A.take j := by simp [trim]
    have s := take_tp (ds := A.map fr) (c := j)
    rw [← List.map_take, ← e1] at s
    generalize trim "least" j A = B at *
    have e2 : toldF "least" j B = if B.length = j then B.getLast? else none := by simp [toldF]
    by_cases q : B.length = j
    · have q' : (B.length : Int) = (j : Int) := by omega
      have h0 : B ≠ [] := fun e => by rw [e] at q; simp at q; omega
      have a := at_last h0
      rw [e2, if_pos q]
      simp [asI, s, q', a, cd_1]
      rfl
    · have q' : ¬ (B.length : Int) = (j : Int) := by omega
      rw [e2, if_neg q]
      simp [asI, s, q', cd_1, opt_none]
      rfl
theorem lock_vals : ∀ (k : Nat) (ds : List D), lockOf k (ds.map RV.val) = []
  | _, [] => rfl
  | k, d :: ds => by
    rw [List.map_cons, lockOf, isVal_val, if_pos rfl]
    exact lock_vals (k + 1) ds
theorem back_vals : ∀ (k : Nat) (ds : List D) (ρ : KR.Env), backs k (ds.map RV.val) ρ = some (ds.map RV.val)
  | _, [], _ => rfl
  | k, d :: ds, ρ => by
    rw [List.map_cons, backs, back_vals (k + 1) ds ρ]
    dsimp only
    rw [isVal_val, if_pos rfl]
theorem runV {np N : Nat} {b : S} {ds : List D} {r : RV} {v : KR.Env} (hl : ds.length = np) (hN : np ≤ N) (e : b [] ((ds.map RV.val).map some ++ List.replicate (N - np) none) = some (.ok (.ret r), v)) : runD np N b (ds.map .val) = some (.ok r, ds.map .val) := by
  unfold runD
  rw [if_pos ⟨by rw [List.length_map]; exact hl, hN⟩, lock_vals, e]
  dsimp only
  rw [back_vals]
  rfl
theorem cordered_run {cc : Nat → Cl} {w : Str} {j : Nat} {d : D} {c : Cell} {o : Option Num} (hj : 1 ≤ j) (hw : w = "great" ∨ w = "least") (hi : ∀ z, o = some z → cc 1 [W z, T c.2.2] = some (.ok (T (ins z c.2.2)), [W z, T c.2.2])) :
    runD 3 5 (b13 cc) [.val (.tup [.str w, .int j, d]), .val (cd c), .val (opt o)] = some (.ok (.val (cd (toldF w j (trim w j (insO o c.2.2)), c.2.1, trim w j (insO o c.2.2)))), [.val (.tup [.str w, .int j, d]), .val (cd c), .val (opt o)]) := by
  have e1 := ordered_1 (t := .val (.tup [.str w, .int j, d])) (c := c) (v4 := none) hi
  have e2 := ordered_2 (d := d) (c := c) (a := .val (opt o)) (A := insO o c.2.2) hj hw
  have e0 : sset 3 (val (KR.bin gix (getv 1) (KR.ret (.int 2)))) [] [some (.val (.tup [.str w, .int j, d])), some (.val (cd c)), some (.val (opt o)), none, none] = some (.ok .nx, [some (.val (.tup [.str w, .int j, d])), some (.val (cd c)), some (.val (opt o)), some (T c.2.2), none]) := by
    simp [cd_2]
  refine runV (ds := [.tup [.str w, .int j, d], cd c, opt o]) rfl (by decide) (v := [some (.val (.tup [.str w, .int j, d])), some (.val (cd c)), some (.val (opt o)), some (T (trim w j (insO o c.2.2))), some (.val (opt (toldF w j (trim w j (insO o c.2.2)))))]) ?_
  show b13 cc [] [some (.val (.tup [.str w, .int j, d])), some (.val (cd c)), some (.val (opt o)), none, none] = _
  unfold b13
  rw [seq_nx e0, seq_nx e1]
  exact e2
theorem ccounted_times {cc : Nat → Cl} {j : Nat} {d : D} {c : Cell} {o : Option Num} {x : Num} :
    runD 4 6 (b14 cc) [.val (.tup [.str "times", .int j, d]), .val (cd c), .val (opt o), W x] = some (.ok (.val (cd (if (if o.isSome then min (c.2.1 + 1) j else c.2.1) = j then some x else none, if o.isSome then min (c.2.1 + 1) j else c.2.1, c.2.2))), [.val (.tup [.str "times", .int j, d]), .val (cd c), .val (opt o), W x]) := by
  have nn := notN_opt o
  have gm := gmin_nat (n := c.2.1 + 1) (j := j)
  rw [show ((c.2.1 + 1 : Nat) : Int) = (c.2.1 : Int) + 1 from rfl] at gm
  have e : D.tup (c.2.2.map fr) = .tup (c.2.2.map fr) := rfl
  generalize hm : (if o.isSome = true then min (c.2.1 + 1) j else c.2.1) = m
  unfold runD b14
  cases q : o.isSome with
  | true =>
    rw [q] at nn hm
    rw [if_pos rfl] at hm
    rw [hm] at gm
    by_cases q2 : m = j
    · have q3 : (m : Int) = (j : Int) := by omega
      simp [lockOf, backs, nn, cd_1, cd_2, gm, q2, q3, opt_some]
      rfl
    · have q3 : ¬ (m : Int) = (j : Int) := by omega
      simp [lockOf, backs, nn, cd_1, cd_2, gm, q2, q3, opt_none]
      rfl
  | false =>
    rw [q] at nn hm
    rw [if_neg Bool.false_ne_true] at hm
    subst hm
    by_cases q2 : c.2.1 = j
    · have q3 : (c.2.1 : Int) = (j : Int) := by omega
      simp [lockOf, backs, nn, cd_1, cd_2, q2, q3, opt_some]
      rfl
    · have q3 : ¬ (c.2.1 : Int) = (j : Int) := by omega
      simp [lockOf, backs, nn, cd_1, cd_2, q2, q3, opt_none]
      rfl
theorem ccounted_circ {cc : Nat → Cl} {i j : Nat} (hi : 0 < i) {d : D} {c : Cell} {o : Option Num} {x : Num} :
    runD 4 6 (b14 cc) [.val (.tup [.str "circle", .int i, .int j, d]), .val (cd c), .val (opt o), W x] = some (.ok (.val (cd (if (if o.isSome then (c.2.1 + 1) % i else c.2.1) = j then some x else none, if o.isSome then (c.2.1 + 1) % i else c.2.1, c.2.2))), [.val (.tup [.str "circle", .int i, .int j, d]), .val (cd c), .val (opt o), W x]) := by
  have nn := notN_opt o
  have gm : gmod (.int ((c.2.1 : Int) + 1)) (.int (i : Int)) = some (.int (((c.2.1 + 1) % i : Nat) : Int)) := by rw [gmod_pos (by omega)]; rfl
  have i2 : atI [.str "circle", .int i, .int j, d] 2 = some (.int j) := rfl
  generalize hm : (if o.isSome = true then (c.2.1 + 1) % i else c.2.1) = m
  unfold runD b14
  cases q : o.isSome with
  | true =>
    rw [q] at nn hm
    rw [if_pos rfl] at hm
    rw [hm] at gm
    by_cases q2 : m = j
    · have q3 : (m : Int) = (j : Int) := by omega
      simp [lockOf, backs, nn, cd_1, cd_2, gm, q2, q3, opt_some, i2]
      rfl
    · have q3 : ¬ (m : Int) = (j : Int) := by omega
      simp [lockOf, backs, nn, cd_1, cd_2, gm, q2, q3, opt_none, i2]
      rfl
  | false =>
    rw [q] at nn hm
    rw [if_neg Bool.false_ne_true] at hm
    subst hm
    by_cases q2 : c.2.1 = j
    · have q3 : (c.2.1 : Int) = (j : Int) := by omega
      simp [lockOf, backs, nn, cd_1, cd_2, q2, q3, opt_some, i2]
      rfl
    · have q3 : ¬ (c.2.1 : Int) = (j : Int) := by omega
      simp [lockOf, backs, nn, cd_1, cd_2, q2, q3, opt_none, i2]
      rfl
end My

set_option Elab.async false
set_option linter.all false
set_option maxRecDepth 100000
namespace My
open PySem L2 KR
section
variable {cc : Nat → Cl} {nm : Str} {x : Num} {tl hl : D}
theorem plain_now : runD 4 5 (b15 cc) [.val (.tup [.str "now"]), .val tl, .val (.str nm), W x] = some (.ok (.val (opt (some x))), [.val (.tup [.str "now"]), .val tl, .val (.str nm), W x]) := by
  unfold runD b15
  simp [lockOf, backs, opt_some]
theorem plain_nothing : runD 4 5 (b15 cc) [.val (.tup [.str "nothing"]), .val tl, .val (.str nm), W x] = some (.ok (.val (opt none)), [.val (.tup [.str "nothing"]), .val tl, .val (.str nm), W x]) := by
  unfold runD b15
  simp [lockOf, backs, opt_none, gin_two]
theorem plain_is {y : Str} : runD 4 5 (b15 cc) [.val (.tup [.str "is", .str y]), .val tl, .val (.str nm), W x] = some (.ok (.val (opt (if nm = y then some x else none))), [.val (.tup [.str "is", .str y]), .val tl, .val (.str nm), W x]) := by
  unfold runD b15
  by_cases q : nm = y
  · simp [lockOf, backs, opt_some, q]
  · simp [lockOf, backs, opt_none, q]
theorem plain_cmp {w : Str} {a b : D} {o p : Option Num} {r : D} (hw : w = "less" ∨ w = "same") (e : cc 12 [.val (.str w), .val (opt o), .val (opt p)] = some (.ok (.val r), [.val (.str w), .val (opt o), .val (opt p)])) :
    runD 4 5 (b15 cc) [.val (.tup [.str w, a, b]), .val (.lst [opt o, opt p]), .val (.str nm), W x] = some (.ok (.val r), [.val (.tup [.str w, a, b]), .val (.lst [opt o, opt p]), .val (.str nm), W x]) := by
  unfold runD b15
  generalize opt o = u at e ⊢
  generalize opt p = v at e ⊢
  rcases hw with rfl | rfl <;> simp [lockOf, backs, gin_two, takeA, putA, e]
theorem plain_if {a b c : D} {o p r : Option Num} :
    runD 4 5 (b15 cc) [.val (.tup [.str "if", a, b, c]), .val (.lst [opt o, opt p, opt r]), .val (.str nm), W x] = some (.ok (.val (opt (if o.isNone then r else p))), [.val (.tup [.str "if", a, b, c]), .val (.lst [opt o, opt p, opt r]), .val (.str nm), W x]) := by
  have nn := isN_opt o
  have i2 : atI [opt o, opt p, opt r] 2 = some (opt r) := rfl
  unfold runD b15
  cases q : o.isNone with
  | true =>
    rw [q] at nn
    generalize opt o = u at *
    simp [lockOf, backs, gin_two, nn, i2]
  | false =>
    rw [q] at nn
    generalize opt o = u at *
    simp [lockOf, backs, gin_two, nn]
variable {c : Cell}
theorem own_pl {w : Str} {ds : List D} {p : Option Num} (hw : w = "now" ∨ w = "nothing" ∨ w = "is" ∨ w = "less" ∨ w = "same" ∨ w = "if") (e : cc 15 [.val (.tup (.str w :: ds)), .val tl, .val (.str nm), W x] = some (.ok (.val (opt p)), [.val (.tup (.str w :: ds)), .val tl, .val (.str nm), W x])) :
    runD 6 8 (b16 cc) [.val (.tup (.str w :: ds)), .val (cd c), .val tl, .val hl, .val (.str nm), W x] = some (.ok (.val (cd (p, c.2))), [.val (.tup (.str w :: ds)), .val (cd c), .val tl, .val hl, .val (.str nm), W x]) := by
  rw [← cd_mk (o := p) (n := c.2.1) (A := c.2.2)]
  unfold runD b16
  generalize opt p = r at e ⊢
  rcases hw with rfl | rfl | rfl | rfl | rfl | rfl <;> simp [lockOf, backs, gin_two, takeA, putA, e, cd_1, cd_2]
theorem own_last {a : D} {o h : Option Num} : runD 6 8 (b16 cc) [.val (.tup [.str "last", a]), .val (cd c), .val (.lst [opt o]), .val hl, .val (.str nm), W x] = some (.ok (.val (cd (if o.isNone then c.1 else o, c.2))), [.val (.tup [.str "last", a]), .val (cd c), .val (.lst [opt o]), .val hl, .val (.str nm), W x]) := by
  have nn := isN_opt o
  rw [← cd_mk (o := if o.isNone then c.1 else o) (n := c.2.1) (A := c.2.2)]
  unfold runD b16
  cases q : o.isNone with
  | true =>
    rw [q] at nn
    rw [if_pos rfl]
    generalize opt o = u at *
    simp [lockOf, backs, gin_two, nn, cd_0, cd_1, cd_2]
  | false =>
    rw [q] at nn
    rw [if_neg Bool.false_ne_true]
    generalize opt o = u at *
    simp [lockOf, backs, gin_two, nn, cd_0, cd_1, cd_2]
theorem own_first {a : D} {o h : Option Num} : runD 6 8 (b16 cc) [.val (.tup [.str "first", a]), .val (cd c), .val (.lst [opt o]), .val hl, .val (.str nm), W x] = some (.ok (.val (cd (if c.1.isNone then o else c.1, c.2))), [.val (.tup [.str "first", a]), .val (cd c), .val (.lst [opt o]), .val hl, .val (.str nm), W x]) := by
  have nn := isN_opt c.1
  rw [← cd_mk (o := if c.1.isNone then o else c.1) (n := c.2.1) (A := c.2.2)]
  unfold runD b16
  cases q : c.1.isNone with
  | true =>
    rw [q] at nn
    rw [if_pos rfl]
    have z := cd_0 (c := c)
    generalize opt c.1 = v at *
    generalize opt o = u at *
    simp [lockOf, backs, gin_two, nn, z, cd_1, cd_2]
  | false =>
    rw [q] at nn
    rw [if_neg Bool.false_ne_true]
    have z := cd_0 (c := c)
    generalize opt c.1 = v at *
    generalize opt o = u at *
    simp [lockOf, backs, gin_two, nn, z, cd_1, cd_2]
theorem own_before {a : D} {h : Option Num} : runD 6 8 (b16 cc) [.val (.tup [.str "before", a]), .val (cd c), .val tl, .val (.lst [opt h]), .val (.str nm), W x] = some (.ok (.val (cd (h, c.2))), [.val (.tup [.str "before", a]), .val (cd c), .val tl, .val (.lst [opt h]), .val (.str nm), W x]) := by
  rw [← cd_mk (o := h) (n := c.2.1) (A := c.2.2)]
  unfold runD b16
  generalize opt h = u
  simp [lockOf, backs, gin_two, cd_0, cd_1, cd_2]
theorem own_ord {w : Str} {a b r : D} {o : Option Num} (hw : w = "great" ∨ w = "least") (e : cc 13 [.val (.tup [.str w, a, b]), .val (cd c), .val (opt o)] = some (.ok (.val r), [.val (.tup [.str w, a, b]), .val (cd c), .val (opt o)])) :
    runD 6 8 (b16 cc) [.val (.tup [.str w, a, b]), .val (cd c), .val (.lst [opt o]), .val hl, .val (.str nm), W x] = some (.ok (.val r), [.val (.tup [.str w, a, b]), .val (cd c), .val (.lst [opt o]), .val hl, .val (.str nm), W x]) := by
  unfold runD b16
  generalize opt o = u at e ⊢
  rcases hw with rfl | rfl <;> simp [lockOf, backs, gin_two, takeA, putA, e]
theorem own_cnt {w : Str} {ds : List D} {r : D} {o : Option Num} (hw : w = "times" ∨ w = "circle") (e : cc 14 [.val (.tup (.str w :: ds)), .val (cd c), .val (opt o), W x] = some (.ok (.val r), [.val (.tup (.str w :: ds)), .val (cd c), .val (opt o), W x])) :
    runD 6 8 (b16 cc) [.val (.tup (.str w :: ds)), .val (cd c), .val (.lst [opt o]), .val hl, .val (.str nm), W x] = some (.ok (.val r), [.val (.tup (.str w :: ds)), .val (cd c), .val (.lst [opt o]), .val hl, .val (.str nm), W x]) := by
  unfold runD b16
  generalize opt o = u at e ⊢
  rcases hw with rfl | rfl <;> simp [lockOf, backs, gin_two, takeA, putA, e]
end
theorem call9 {k : Nat} {rs : List RV} : call (k + 1) 16 rs = runD 6 8 (b16 (call k)) rs := by
  rw [call]
  simp only [bodies]
theorem call8 {k : Nat} {rs : List RV} : call (k + 1) 15 rs = runD 4 5 (b15 (call k)) rs := by
  rw [call]
  simp only [bodies]
theorem call5 {k : Nat} {rs : List RV} : call (k + 1) 12 rs = runD 3 3 (b12 (call k)) rs := by
  rw [call]
  simp only [bodies]
theorem call6 {k : Nat} {rs : List RV} : call (k + 1) 13 rs = runD 3 5 (b13 (call k)) rs := by
  rw [call]
  simp only [bodies]
theorem call7 {k : Nat} {rs : List RV} : call (k + 1) 14 rs = runD 4 6 (b14 (call k)) rs := by
  rw [call]
  simp only [bodies]
def Q.plainK : Q → Prop
  | .two w _ _ => w = "less" ∨ w = "same"
  | _ => True
theorem own_ok {m k : Nat} {nm : Str} {x : Num} (hx : Fr x) {q : Q} (hq : q.ok (m + 1)) (hp : q.plainK) {c : Cell} (hc : HOk c) {T H : List (Option Num)} (hT : T.length = (kids q).length) (hH : H.length = (kids q).length) (fT : ∀ o ∈ T, ∀ x, o = some x → Fr x) :
    call (k + 4) 16 [.val q.toD, .val (cd c), .val (.lst (T.map opt)), .val (.lst (H.map opt)), .val (.str nm), W x] = some (.ok (.val (cd (ownC nm x q c T H))), [.val q.toD, .val (cd c), .val (.lst (T.map opt)), .val (.lst (H.map opt)), .val (.str nm), W x]) := by
  rw [show k + 4 = (k + 3) + 1 from rfl, call9]
  cases q with
  | now =>
    rw [Q.toD]
    refine own_pl (p := some x) (.inl rfl) ?_
    rw [show k + 3 = (k + 2) + 1 from rfl, call8]
    exact plain_now
  | nothing =>
    rw [Q.toD]
    refine own_pl (p := none) (.inr (.inl rfl)) ?_
    rw [show k + 3 = (k + 2) + 1 from rfl, call8]
    exact plain_nothing
  | is y =>
    rw [Q.toD]
    refine own_pl (p := if nm = y then some x else none) (.inr (.inr (.inl rfl))) ?_
    rw [show k + 3 = (k + 2) + 1 from rfl, call8]
    exact plain_is
  | one w a =>
    rw [Q.toD]
    match T, H, hT, hH with
    | [t], [h], _, _ =>
      rcases hq.1 with rfl | rfl | rfl
      · have e : ownC nm x (.one "last" a) c [t] [h] = (if t.isNone then c.1 else t, c.2) := by simp [ownC]
        rw [e]
        exact own_last (h := none)
      · have e : ownC nm x (.one "first" a) c [t] [h] = (if c.1.isNone then t else c.1, c.2) := by simp [ownC]
        rw [e]
        exact own_first (h := none)
      · have e : ownC nm x (.one "before" a) c [t] [h] = (h, c.2) := by simp [ownC]
        rw [e]
        exact own_before
  | two w a b =>
    rw [Q.toD]
    match T, H, hT, hH with
    | [t, u], [h, g], _, _ =>
      have hw : w = "less" ∨ w = "same" := hp
      have e : ownC nm x (.two w a b) c [t, u] [h, g] = (cmpF w t u, c.2) := by simp [ownC, hw]
      rw [e]
      refine own_pl (p := cmpF w t u) (by rcases hw with h | h; exact .inr (.inr (.inr (.inl h))); exact .inr (.inr (.inr (.inr (.inl h))))) ?_
      rw [show k + 3 = (k + 2) + 1 from rfl, call8]
      refine plain_cmp hw ?_
      rw [show k + 2 = (k + 1) + 1 from rfl, call5]
      refine pcompared_run fun y z hy hz => ?_
      have fy := fT t (by simp) y hy
      have fz := fT u (by simp) z hz
      exact less_eq (n := k) fy.sm.a fy.sm.b fz.sm.a fz.sm.b
  | iff a b d =>
    rw [Q.toD]
    match T, H, hT, hH with
    | [t, u, v], [h, g, i], _, _ =>
      refine own_pl (p := if t.isNone then v else u) (.inr (.inr (.inr (.inr (.inr rfl))))) ?_
      rw [show k + 3 = (k + 2) + 1 from rfl, call8]
      exact plain_if
  | num w j a =>
    rw [Q.toD]
    match T, H, hT, hH with
    | [t], [h], _, _ =>
      by_cases q : w = "times"
      · subst q
        have e : ownC nm x (.num "times" j a) c [t] [h] = (if (if t.isSome then min (c.2.1 + 1) j else c.2.1) = j then some x else none, if t.isSome then min (c.2.1 + 1) j else c.2.1, c.2.2) := by simp [ownC]
        rw [e]
        refine own_cnt (.inl rfl) ?_
        rw [show k + 3 = (k + 2) + 1 from rfl, call7]
        exact ccounted_times
      · have hw : (w = "great" ∨ w = "least") ∧ 1 ≤ j := by
          rcases hq.1 with h | h
          · exact ⟨h.1, h.2.1⟩
          · exact absurd h.1 q
        have e : ownC nm x (.num w j a) c [t] [h] = (toldF w j (trim w j (insO t c.2.2)), c.2.1, trim w j (insO t c.2.2)) := by simp [ownC, q]
        rw [e]
        refine own_ord hw.1 ?_
        rw [show k + 3 = (k + 2) + 1 from rfl, call6]
        exact cordered_run hw.2 hw.1 fun z hz => inserted_eq (n := k) (fT t (by simp) z hz) hc.g (by have := hc.l; omega)
  | circ i j a =>
    rw [Q.toD]
    match T, H, hT, hH with
    | [t], [h], _, _ =>
      refine own_cnt (.inr rfl) ?_
      rw [show k + 3 = (k + 2) + 1 from rfl, call7]
      exact ccounted_circ (by have := hq.1; omega)
end My

set_option Elab.async false
set_option linter.all false
set_option maxRecDepth 100000
namespace My
open PySem L2 KR
abbrev prs (q : Q) (t : CT) : List (Q × CT) := (kids q).zip t.kids
theorem fits_prs {q : Q} {t : CT} (h : Fits q t) : (prs q t).map (·.1) = kids q ∧ (prs q t).map (·.2) = t.kids ∧ ∀ p ∈ prs q t, Fits p.1 p.2 := by
  cases q <;> cases t <;> first
    | exact h.elim
    | (refine ⟨rfl, rfl, fun p hp => ?_⟩; simp [prs, kids, CT.kids] at hp; done)
    | (refine ⟨rfl, rfl, fun p hp => ?_⟩; simp [prs, kids, CT.kids] at hp; subst hp; exact h.2)
    | (refine ⟨rfl, rfl, fun p hp => ?_⟩; simp [prs, kids, CT.kids] at hp; subst hp; exact h.2.2)
    | (refine ⟨rfl, rfl, fun p hp => ?_⟩; simp [prs, kids, CT.kids] at hp; rcases hp with rfl | rfl; exact h.2.1; exact h.2.2)
    | (refine ⟨rfl, rfl, fun p hp => ?_⟩; simp [prs, kids, CT.kids] at hp; rcases hp with rfl | rfl | rfl; exact h.2.1; exact h.2.2.1; exact h.2.2.2)
theorem hear_two {nm : Str} {x : Num} {w : Str} {a b : Q} {c : Cell} {t u : CT} (hw : w = "less" ∨ w = "same") : hearT nm x (.two w a b) (.n2 c t u) = .n2 (ownC nm x (.two w a b) c [(hearT nm x a t).hd.1, (hearT nm x b u).hd.1] [t.hd.1, u.hd.1]) (hearT nm x a t) (hearT nm x b u) := by
  rw [hearT]
  rw [if_pos hw]
theorem hear_plain {nm : Str} {x : Num} {q : Q} {t : CT} (h : Fits q t) (hp : q.plainK) :
    (hearT nm x q t).hd = ownC nm x q t.hd ((prs q t).map fun p => (hearT nm x p.1 p.2).hd.1) ((prs q t).map fun p => p.2.hd.1) ∧ (hearT nm x q t).kids = (prs q t).map fun p => hearT nm x p.1 p.2 := by
  cases q <;> cases t <;> first
    | exact h.elim
    | exact ⟨rfl, rfl⟩
    | (rw [hear_two hp]; exact ⟨rfl, rfl⟩)
abbrev ls (t : CT) : D := .lst (t.flat.map cd)
theorem flat_0 {t : CT} : atI (t.flat.map cd) 0 = some (cd t.hd) := by
  rw [flat_kids, List.map_cons]
  exact atI_zero
theorem mid_sl {A B C : List D} : gsl (some (A.length : Int)) (some ((A.length : Int) + B.length)) (.lst (A ++ (B ++ C))) = some (.lst B) := by
  show some (D.lst (cutD (A ++ (B ++ C)) (some (A.length : Int)) (some ((A.length : Int) + B.length)))) = _
  unfold cutD
  have e : ((A.length : Int) + B.length) = ((A.length + B.length : Nat) : Int) := rfl
  have hl : (A ++ (B ++ C)).length = A.length + (B.length + C.length) := by simp
  rw [e, HT.sIx_nat, HT.sIx_nat, hl, Nat.min_eq_left (by omega), Nat.min_eq_left (by omega), List.drop_left' rfl, show A.length + B.length - A.length = B.length by omega, List.take_left' rfl]
abbrev BS (cc : Nat → Cl) : S := (seq (sset 5 (ocall (cc 10) 1 (cval (getv 4) (KR.ret []))))
  (seq (sdo (apnd 2 (cut (getv 1) (par (getv 3)) (par (KR.bin gadd (getv 3) (getv 5))))))
  (gaug giadd 3 (getv 5))))
theorem split_turn {cc : Nat → Cl} {t : RV} {d piece : D} {cells P : List D} {a n : Int} {v5 : Option RV} (e : cc 10 [.val d] = some (.ok (KR.I n), [.val d])) (es : gsl (some a) (some (a + n)) (.lst cells) = some piece) (hP : P.length < 16777216) :
    BS cc [] [some t, some (.val (.lst cells)), some (.olst P), some (KR.I a), some (.val d), v5] = some (.ok .nx, [some t, some (.val (.lst cells)), some (.olst (P ++ [piece])), some (KR.I (a + n)), some (.val d), some (KR.I n)]) := by
  have g : giadd (.int a) (.int n) = some (.int (a + n)) := rfl
  simp [takeA, putA, e, asI, es, hP, g]
theorem split_for {cc : Nat → Cl} {t : RV} : ∀ (ps : List (Q × CT)) (pre : List Cell) (P : List D) (v4 v5 : Option RV), (∀ p ∈ ps, cc 10 [.val p.1.toD] = some (.ok (KR.I p.2.flat.length), [.val p.1.toD])) → P.length + ps.length ≤ 1000 →
    ∃ a v4' v5', forL (gnm 4) (BS cc) (ps.map fun p => p.1.toD) [] [some t, some (.val (.lst ((pre ++ (ps.map fun p => p.2.flat).flatten).map cd))), some (.olst P), some (KR.I pre.length), v4, v5] =
      some (.ok .nx, [some t, some (.val (.lst ((pre ++ (ps.map fun p => p.2.flat).flatten).map cd))), some (.olst (P ++ ps.map fun p => ls p.2)), a, v4', v5'])
  | [], pre, P, v4, v5, _, _ => ⟨_, v4, v5, by simp; rfl⟩
  | p :: ps, pre, P, v4, v5, h, hl => by
    rw [List.length_cons] at hl
    obtain ⟨a, v4', v5', e⟩ := split_for (t := t) ps (pre ++ p.2.flat) (P ++ [ls p.2]) (some (.val p.1.toD)) (some (KR.I p.2.flat.length)) (fun p' hp => h p' (List.mem_cons_of_mem _ hp)) (by rw [List.length_append, List.length_singleton]; omega)
    refine ⟨a, v4', v5', ?_⟩
    have hs := mid_sl (A := pre.map cd) (B := p.2.flat.map cd) (C := ((ps.map fun p => p.2.flat).flatten).map cd)
    rw [← List.map_append, ← List.map_append, List.length_map, List.length_map] at hs
    have ec : (pre ++ ((p :: ps).map fun p => p.2.flat).flatten) = pre ++ (p.2.flat ++ (ps.map fun p => p.2.flat).flatten) := by rw [List.map_cons, List.flatten_cons]
    rw [List.append_assoc] at e
    rw [ec]
    generalize (pre ++ (p.2.flat ++ (ps.map fun p => p.2.flat).flatten)).map cd = cells at e hs ⊢
    have et := split_turn (t := t) (P := P) (v5 := v5) (h p List.mem_cons_self) hs (by omega)
    rw [List.map_cons, forL_nx (ρ1 := [some t, some (.val (.lst cells)), some (.olst P), some (KR.I pre.length), some (.val p.1.toD), v5]) (by simp) et]
    rw [List.length_append] at e
    rw [List.append_assoc] at e
    exact e
theorem call10 {k : Nat} {rs : List RV} : call (k + 1) 17 rs = runD 2 6 (b17 (call k)) rs := by
  rw [call]
  simp only [bodies]
theorem split_ok {m k : Nat} {q : Q} (hq : q.ok (m + 1)) {t : CT} (h : Fits q t) : call (m + k + 2) 17 [.val q.toD, .val (ls t)] = some (.ok (.val (.lst (t.kids.map ls))), [.val q.toD, .val (ls t)]) := by
  obtain ⟨p1, p2, p3⟩ := fits_prs h
  have hk : ∀ p ∈ prs q t, p.1.ok m := fun p hp => kids_ok hq p.1 (by rw [← p1]; exact List.mem_map_of_mem hp)
  obtain ⟨a, v4, v5, e⟩ := split_for (cc := call (m + k + 1)) (t := .val q.toD) (prs q t) [t.hd] [] none none (fun p hp => by
    have := parts_ok m p.1 (hk p hp) k
    rw [show m + 1 + k = m + k + 1 by omega] at this
    rw [flat_len m p.1 (hk p hp) p.2 (p3 p hp)]
    exact this) (by
      have h1 := congrArg List.length p1
      rw [List.length_map] at h1
      rw [List.length_nil, h1]
      have := kids_len q
      omega)
  have ec : [t.hd] ++ ((prs q t).map fun p => p.2.flat).flatten = t.flat := by
    rw [flat_kids t]
    have : ((prs q t).map fun p => p.2.flat) = t.kids.map CT.flat := by
      rw [← p2, List.map_map]
      rfl
    rw [this]
    rfl
  have ek : ((prs q t).map fun p => p.1.toD) = (kids q).map Q.toD := by
    rw [← p1, List.map_map]
    rfl
  have el : ((prs q t).map fun p => ls p.2) = t.kids.map ls := by
    rw [← p2, List.map_map]
    rfl
  rw [ec, ek, el, List.nil_append] at e
  have c2 := children_ok (k := m + k) q
  rw [show m + k + 2 = (m + k + 1) + 1 from rfl, call10]
  have hb : b17 (call (m + k + 1)) = (seq (sset 2 (dlst (KR.ret []))) (seq (sset 3 (val (KR.ret (.int 1)))) (seq (sfor (gnm 4) (its (frz (ocall (call (m + k + 1) 9) 1 (cval (getv 0) (KR.ret []))))) (BS (call (m + k + 1)))) (sret (val (getv 2)))))) := rfl
  rw [hb]
  clear hb
  generalize BS (call (m + k + 1)) = B at e ⊢
  generalize (kids q).map Q.toD = K at c2 e
  generalize t.kids.map ls = L at e ⊢
  generalize q.toD = d at *
  have e' : forL (gnm 4) B K [] [some (.val d), some (.val (ls t)), some (.olst []), some (KR.I 1), none, none] = some (.ok .nx, [some (.val d), some (.val (ls t)), some (.olst L), a, v4, v5]) := e
  generalize ls t = C at e' ⊢
  refine runV (ds := [d, C]) rfl (by decide) (v := [some (.val d), some (.val C), some (.val (.lst L)), a, v4, v5]) ?_
  simp [takeA, putA, c2, e']
end My

set_option Elab.async false
set_option linter.all false
set_option maxRecDepth 100000
namespace My
open PySem L2 KR
def HrOk (cc : Nat → Cl) (nm : Str) (x : Num) (q : Q) : Prop := ∀ t, Fits q t → cc 19 [.val q.toD, .val (ls t), .val (.str nm), W x] = some (.ok (.val (ls (hearT nm x q t))), [.val q.toD, .val (ls t), .val (.str nm), W x])
theorem zip_map {α : Type} {f g : α → D} : ∀ l : List α, zipD (l.map f) (l.map g) = l.map fun x => .tup [f x, g x]
  | [] => rfl
  | x :: l => by rw [List.map_cons, List.map_cons, List.map_cons, zipD, zip_map l]
abbrev EH (cc : Nat → Cl) : M D := (frz (ocall (cc 19) 4 (cval (getv 10) (cval (getv 8) (cval (getv 2) (cval (getv 3) (KR.ret [])))))))
theorem comp_hear {cc : Nat → Cl} {nm : Str} {x : Num} {t c p : RV} : ∀ (ps : List (Q × CT)) (acc : List D), (∀ p ∈ ps, HrOk cc nm x p.1 ∧ Fits p.1 p.2) →
    compL (gtp 2 (gsc (gnm 10) (gsc (gnm 8) gsn))) (KR.ret true) (EH cc) [10, 8] 11 (ps.map fun p => .tup [p.1.toD, ls p.2]) acc [some t, some c, some (.val (.str nm)), some (W x), some p, none, none, none, none, none, none] =
      some (acc ++ ps.map fun p => ls (hearT nm x p.1 p.2), [some t, some c, some (.val (.str nm)), some (W x), some p, none, none, none, none, none, none])
  | [], acc, _ => by simp [compL]
  | r :: ps, acc, h => by
    obtain ⟨h1, h2⟩ := h r List.mem_cons_self
    have e := h1 r.2 h2
    have ih := comp_hear (t := t) (c := c) (p := p) ps (acc ++ [ls (hearT nm x r.1 r.2)]) fun p hp => h p (List.mem_cons_of_mem _ hp)
    rw [List.map_cons, compL]
    have ho10 : 10 ∉ oth 11 [10, 8] := by decide
    have ho8 : 8 ∉ oth 11 [10, 8] := by decide
    have hg : gtp 2 (gsc (gnm 10) (gsc (gnm 8) gsn)) (.tup [r.1.toD, ls r.2]) (oth 11 [10, 8]) [some t, some c, some (.val (.str nm)), some (W x), some p, none, none, none, none, none, none] = some [some t, some c, some (.val (.str nm)), some (W x), some p, none, none, none, some (.val (ls r.2)), none, some (.val r.1.toD)] := by
      simp [ho10, ho8]
    rw [hg]
    dsimp only
    rw [if_pos (by rfl)]
    have ht : (KR.ret true : M Bool) [some t, some c, some (.val (.str nm)), some (W x), some p, none, none, none, some (.val (ls r.2)), none, some (.val r.1.toD)] = some (.ok true, [some t, some c, some (.val (.str nm)), some (W x), some p, none, none, none, some (.val (ls r.2)), none, some (.val r.1.toD)]) := rfl
    rw [ht]
    dsimp only
    have he : EH cc [some t, some c, some (.val (.str nm)), some (W x), some p, none, none, none, some (.val (ls r.2)), none, some (.val r.1.toD)] = some (.ok (ls (hearT nm x r.1 r.2)), [some t, some c, some (.val (.str nm)), some (W x), some p, none, none, none, some (.val (ls r.2)), none, some (.val r.1.toD)]) := by
      generalize ls (hearT nm x r.1 r.2) = L at e ⊢
      generalize ls r.2 = C at e ⊢
      generalize r.1.toD = d at e ⊢
      simp [takeA, putA, e]
    rw [he]
    dsimp only
    rw [if_pos (by rfl)]
    have hw : wipeE [some t, some c, some (.val (.str nm)), some (W x), some p, none, none, none, some (.val (ls r.2)), none, some (.val r.1.toD)] [10, 8] = [some t, some c, some (.val (.str nm)), some (W x), some p, none, none, none, none, none, none] := rfl
    rw [hw, ih, List.append_assoc]
    rfl
def headD : D → D
  | .lst (.tup (o :: _) :: _) => o
  | _ => .non
theorem head_ls {t : CT} : headD (ls t) = opt t.hd.1 := by
  show headD (.lst (t.flat.map cd)) = _
  rw [flat_kids, List.map_cons]
  rfl
abbrev EHd : M D := KR.bin gix (KR.bin gix (getv 8) (KR.ret (.int 0))) (KR.ret (.int 0))
theorem comp_heads {it : M (List D)} {ρ0 ρ : KR.Env} (l : List CT) (hi : it ρ0 = some (.ok (l.map ls), ρ)) (hl : ρ.length = 11) (h8 : ρ[8]? = some none) (hn : l.length ≤ 10) : lcomp [8] it (gnm 8) (KR.ret true) EHd ρ0 = some (.ok (.olst (l.map fun t => opt t.hd.1)), ρ) := by
  have e := lcomp_pure (t := KR.ret true) (elt := EHd) (p := fun _ => true) (f := headD) (v := 8) hi (by omega) (by simp [okW, plainS, h8]) (by rw [size_line, List.length_map]; omega) (fun d _ => by simp) (fun d hd _ => by
    obtain ⟨t, _, rfl⟩ := List.mem_map.mp hd
    rw [head_ls]
    have f0 := flat_0 (t := t)
    have c0 := cd_0 (c := t.hd)
    simp [List.getElem?_set_self (show 8 < ρ.length by omega), f0, c0])
  have e2 : ((l.map ls).filter fun _ => true).map headD = l.map fun t => opt t.hd.1 := by
    rw [List.filter_eq_self.mpr fun _ _ => rfl, List.map_map]
    exact List.map_congr_left fun t _ => head_ls
  rw [e2] at e
  exact e
theorem comp_flat {a0 a1 a2 a3 a4 a5 a6 a7 a10 : Option RV} : ∀ (xss : List (List D)) (acc : List D), acc.length + xss.flatten.length ≤ 16777216 →
    compL2 (gnm 8) (its (getv 8)) (gnm 9) (getv 9) [8, 9] [9] 11 (xss.map .lst) acc [a0, a1, a2, a3, a4, a5, a6, a7, none, none, a10] = some (acc ++ xss.flatten, [a0, a1, a2, a3, a4, a5, a6, a7, none, none, a10])
  | [], acc, _ => by simp [compL2]
  | xs :: xss, acc, h => by
    rw [List.flatten_cons, List.length_append] at h
    have ih := comp_flat (a0 := a0) (a1 := a1) (a2 := a2) (a3 := a3) (a4 := a4) (a5 := a5) (a6 := a6) (a7 := a7) (a10 := a10) xss (acc ++ xs) (by rw [List.length_append]; omega)
    have h8 : 8 ∉ oth 11 [8, 9] := by decide
    rw [List.map_cons, compL2]
    have hg : gnm 8 (.lst xs) (oth 11 [8, 9]) [a0, a1, a2, a3, a4, a5, a6, a7, none, none, a10] = some [a0, a1, a2, a3, a4, a5, a6, a7, some (.val (.lst xs)), none, a10] := by simp [h8]
    rw [hg]
    dsimp only
    rw [if_pos (by rfl)]
    have hi : its (getv 8) [a0, a1, a2, a3, a4, a5, a6, a7, some (.val (.lst xs)), none, a10] = some (.ok xs, [a0, a1, a2, a3, a4, a5, a6, a7, some (.val (.lst xs)), none, a10]) := by simp
    rw [hi]
    dsimp only
    rw [if_pos ⟨rfl, by rw [size_line]; omega⟩]
    have hw : wipeE [a0, a1, a2, a3, a4, a5, a6, a7, some (.val (.lst xs)), none, a10] [9] = [a0, a1, a2, a3, a4, a5, a6, a7, some (.val (.lst xs)), none, a10] := rfl
    have hc := compL_pure (ρ := [a0, a1, a2, a3, a4, a5, a6, a7, some (.val (.lst xs)), none, a10]) (t := KR.ret true) (elt := getv 9) (p := fun _ => true) (f := id) (v := 9) (by simp) rfl xs acc (fun x _ => by simp) (fun x _ _ => by simp)
    have hl : ([a0, a1, a2, a3, a4, a5, a6, a7, some (.val (.lst xs)), none, a10] : KR.Env).length = 11 := rfl
    rw [hl, List.filter_eq_self.mpr fun _ _ => rfl, List.map_id] at hc
    rw [hw, hc]
    dsimp only
    rw [if_pos (by rfl)]
    have hw2 : wipeE [a0, a1, a2, a3, a4, a5, a6, a7, some (.val (.lst xs)), none, a10] [8, 9] = [a0, a1, a2, a3, a4, a5, a6, a7, none, none, a10] := rfl
    rw [hw2, ih, List.flatten_cons, List.append_assoc]
abbrev FL : M RV := lcomp2 [8, 9] [9] (its (getv 5)) (gnm 8) (its (getv 8)) (gnm 9) (getv 9)
theorem flat_all {a0 a1 a2 a3 a4 a6 a7 a10 : Option RV} {h : RV} (l : List CT) (hh : isL h (l.map ls)) (hn : ((l.map fun t => t.flat.map cd).flatten).length ≤ 16777216) :
    FL [a0, a1, a2, a3, a4, some h, a6, a7, none, none, a10] = some (.ok (.olst ((l.map CT.flat).flatten.map cd)), [a0, a1, a2, a3, a4, some (.val (.lst (l.map ls))), a6, a7, none, none, a10]) := by
  have e := comp_flat (a0 := a0) (a1 := a1) (a2 := a2) (a3 := a3) (a4 := a4) (a5 := some (.val (.lst (l.map ls)))) (a6 := a6) (a7 := a7) (a10 := a10) (l.map fun t => t.flat.map cd) [] (by simpa using hn)
  have el : (l.map fun t => t.flat.map cd).map D.lst = l.map ls := by rw [List.map_map]; rfl
  have ef : (l.map fun t => t.flat.map cd).flatten = (l.map CT.flat).flatten.map cd := by rw [List.map_flatten, List.map_map]; rfl
  rw [el, List.nil_append, ef] at e
  have hi : its (getv 5) [a0, a1, a2, a3, a4, some h, a6, a7, none, none, a10] = some (.ok (l.map ls), [a0, a1, a2, a3, a4, some (.val (.lst (l.map ls))), a6, a7, none, none, a10]) := by rcases hh with rfl | rfl <;> simp
  show KR.bnd (its (getv 5)) _ _ = _
  rw [bnd_ap, hi]
  dsimp only
  rw [if_pos (by rfl)]
  have hw : wipeE [a0, a1, a2, a3, a4, some (.val (.lst (l.map ls))), a6, a7, none, none, a10] [8, 9] = [a0, a1, a2, a3, a4, some (.val (.lst (l.map ls))), a6, a7, none, none, a10] := rfl
  have hl : ([a0, a1, a2, a3, a4, some (.val (.lst (l.map ls))), a6, a7, none, none, a10] : KR.Env).length = 11 := rfl
  rw [hw, hl, e]
  rfl
end My

set_option Elab.async false
set_option linter.all false
set_option maxRecDepth 100000
namespace My
open PySem L2 KR
noncomputable def b12G (cc : Nat → Cl) (Zh Zt Za Zf : M RV) : S :=
  (seq (sset 4 (ocall (cc 17) 2 (cval (getv 0) (cval (getv 1) (KR.ret [])))))
  (seq (sif (tst (KR.bin gin (KR.bin gix (getv 0) (KR.ret (.int 0))) (dtup (acons (KR.ret (.str "since")) (acons (KR.ret (.str "among")) (KR.ret [])))))) (seq (sset 5 (ocall (cc 18) 4 (cval (getv 0) (cval (getv 4) (cval (getv 2) (cval (getv 3) (KR.ret [])))))))
  (sset 6 (val (dtup (acons (KR.bin gix (KR.bin gix (KR.bin gix (getv 5) (KR.ret (.int 1))) (KR.ret (.int 0))) (KR.ret (.int 0))) (acons (KR.bin gix (KR.bin gix (getv 1) (KR.ret (.int 0))) (KR.ret (.int 1))) (acons (KR.bin gix (KR.bin gix (getv 1) (KR.ret (.int 0))) (KR.ret (.int 2))) (KR.ret [])))))))) (seq (sset 5 Zh)
  (seq (sset 7 Zt)
  (sset 6 (ocall (cc 16) 6 (cval (getv 0) (cval (KR.bin gix (getv 1) (KR.ret (.int 0))) (cval (getv 7) (cval (frz Za) (cval (getv 2) (cval (getv 3) (KR.ret []))))))))))))
  (sret (val (KR.bin gadd (frz (dlst (acons (getv 6) (KR.ret [])))) (frz Zf))))))
theorem b12_eq (cc : Nat → Cl) : b19 cc = b12G cc (lcomp [10, 8] (icl zpp (acons (frz (ocall (cc 9) 1 (cval (getv 0) (KR.ret [])))) (acons (getv 4) (KR.ret [])))) (gtp 2 (gsc (gnm 10) (gsc (gnm 8) gsn))) (KR.ret true) (EH cc)) (lcomp [8] (its (getv 5)) (gnm 8) (KR.ret true) EHd) (lcomp [8] (its (getv 4)) (gnm 8) (KR.ret true) EHd) FL := rfl
theorem plain_run {cc : Nat → Cl} {Zh Zt Za Zf : M RV} {w : Str} {ds : List D} {C P H T Hs F : List D} {c0 n X own : D} (hw : ¬ (w = "since" ∨ w = "among"))
    (e1 : cc 17 [.val (.tup (.str w :: ds)), .val (.lst C)] = some (.ok (.val (.lst P)), [.val (.tup (.str w :: ds)), .val (.lst C)]))
    (e2 : Zh [some (.val (.tup (.str w :: ds))), some (.val (.lst C)), some (.val n), some (.val X), some (.val (.lst P)), none, none, none, none, none, none] = some (.ok (.olst H), [some (.val (.tup (.str w :: ds))), some (.val (.lst C)), some (.val n), some (.val X), some (.val (.lst P)), none, none, none, none, none, none]))
    (e3 : Zt [some (.val (.tup (.str w :: ds))), some (.val (.lst C)), some (.val n), some (.val X), some (.val (.lst P)), some (.olst H), none, none, none, none, none] = some (.ok (.olst T), [some (.val (.tup (.str w :: ds))), some (.val (.lst C)), some (.val n), some (.val X), some (.val (.lst P)), some (.val (.lst H)), none, none, none, none, none]))
    (e4 : Za [some (.val (.tup (.str w :: ds))), some (.val (.lst C)), some (.val n), some (.val X), some (.val (.lst P)), some (.val (.lst H)), none, some (.val (.lst T)), none, none, none] = some (.ok (.olst Hs), [some (.val (.tup (.str w :: ds))), some (.val (.lst C)), some (.val n), some (.val X), some (.val (.lst P)), some (.val (.lst H)), none, some (.val (.lst T)), none, none, none]))
    (ec : atI C 0 = some c0) (e5 : cc 16 [.val (.tup (.str w :: ds)), .val c0, .val (.lst T), .val (.lst Hs), .val n, .val X] = some (.ok (.val own), [.val (.tup (.str w :: ds)), .val c0, .val (.lst T), .val (.lst Hs), .val n, .val X]))
    (e6 : Zf [some (.val (.tup (.str w :: ds))), some (.val (.lst C)), some (.val n), some (.val X), some (.val (.lst P)), some (.val (.lst H)), some (.val own), some (.val (.lst T)), none, none, none] = some (.ok (.olst F), [some (.val (.tup (.str w :: ds))), some (.val (.lst C)), some (.val n), some (.val X), some (.val (.lst P)), some (.val (.lst H)), some (.val own), some (.val (.lst T)), none, none, none]))
    (hF : F.length ≤ 10000000) :
    runD 4 11 (b12G cc Zh Zt Za Zf) [.val (.tup (.str w :: ds)), .val (.lst C), .val n, .val X] = some (.ok (.val (.lst (own :: F))), [.val (.tup (.str w :: ds)), .val (.lst C), .val n, .val X]) := by
  have g1 : gadd (.lst [own]) (.lst F) = some (.lst (own :: F)) := gadd_lst (a := [own]) (b := F) (by simp; omega)
  refine runV (ds := [.tup (.str w :: ds), .lst C, n, X]) rfl (by decide) (v := [some (.val (.tup (.str w :: ds))), some (.val (.lst C)), some (.val n), some (.val X), some (.val (.lst P)), some (.val (.lst H)), some (.val own), some (.val (.lst T)), none, none, none]) ?_
  unfold b12G
  simp [takeA, putA, e1, gin_two, hw, e2, e3, e4, ec, e5, e6, g1]
theorem split_run {cc : Nat → Cl} {Zh Zt Za Zf : M RV} {w : Str} {ds : List D} {C P F : List D} {n X f s : D} {c c2 : Cell} (hw : w = "since" ∨ w = "among")
    (e1 : cc 17 [.val (.tup (.str w :: ds)), .val (.lst C)] = some (.ok (.val (.lst P)), [.val (.tup (.str w :: ds)), .val (.lst C)]))
    (e2 : cc 18 [.val (.tup (.str w :: ds)), .val (.lst P), .val n, .val X] = some (.ok (.olst [f, s]), [.val (.tup (.str w :: ds)), .val (.lst P), .val n, .val X]))
    (ec : atI C 0 = some (cd c)) (es : gix s (.int 0) = some (cd c2))
    (e6 : Zf [some (.val (.tup (.str w :: ds))), some (.val (.lst C)), some (.val n), some (.val X), some (.val (.lst P)), some (.val (.lst [f, s])), some (.val (cd (c2.1, c.2))), none, none, none, none] = some (.ok (.olst F), [some (.val (.tup (.str w :: ds))), some (.val (.lst C)), some (.val n), some (.val X), some (.val (.lst P)), some (.val (.lst [f, s])), some (.val (cd (c2.1, c.2))), none, none, none, none]))
    (hF : F.length ≤ 10000000) :
    runD 4 11 (b12G cc Zh Zt Za Zf) [.val (.tup (.str w :: ds)), .val (.lst C), .val n, .val X] = some (.ok (.val (.lst (cd (c2.1, c.2) :: F))), [.val (.tup (.str w :: ds)), .val (.lst C), .val n, .val X]) := by
  have g1 : gadd (.lst [cd (c2.1, c.2)]) (.lst F) = some (.lst (cd (c2.1, c.2) :: F)) := gadd_lst (a := [cd (c2.1, c.2)]) (b := F) (by simp; omega)
  have mk : D.tup [opt c2.1, .int (c.2.1 : Nat), .tup (c.2.2.map fr)] = cd (c2.1, c.2) := cd_mk
  refine runV (ds := [.tup (.str w :: ds), .lst C, n, X]) rfl (by decide) (v := [some (.val (.tup (.str w :: ds))), some (.val (.lst C)), some (.val n), some (.val X), some (.val (.lst P)), some (.val (.lst [f, s])), some (.val (cd (c2.1, c.2))), none, none, none, none]) ?_
  unfold b12G
  generalize cd (c2.1, c.2) = own at *
  simp [takeA, putA, e1, gin_two, hw, e2, ec, es, cd_0, cd_1, cd_2, mk, e6, g1]
theorem hsplit_run {cc : Nat → Cl} {w : Str} {a b n X pa pb fa s2 : D} {l : List D} {c : Cell} (hw : w = "since" ∨ w = "among")
    (e1 : cc 19 [.val a, .val pa, .val n, .val X] = some (.ok (.val fa), [.val a, .val pa, .val n, .val X])) (ef : gix fa (.int 0) = some (cd c))
    (e2 : cc 11 [.val b] = some (.ok (.olst l), [.val b])) (e3 : cc 19 [.val b, .val pb, .val n, .val X] = some (.ok (.val s2), [.val b, .val pb, .val n, .val X])) :
    runD 4 6 (b18 cc) [.val (.tup [.str w, a, b]), .val (.lst [pa, pb]), .val n, .val X] = some (.ok (.olst [fa, if w = "since" then (if c.1.isSome then .lst l else s2) else (if c.1.isSome then s2 else pb)]), [.val (.tup [.str w, a, b]), .val (.lst [pa, pb]), .val n, .val X]) := by
  have i2 : atI [.str w, a, b] 2 = some b := rfl
  have nn := notN_opt c.1
  have n1 : ¬ ("among" : Str) = "since" := by simp
  unfold runD b18
  rcases hw with rfl | rfl
  · have i2 : atI [.str "since", a, b] 2 = some b := rfl
    cases q : c.1.isSome with
    | true => rw [q] at nn; simp [lockOf, backs, takeA, putA, e1, ef, cd_0, nn, i2, e2]
    | false => rw [q] at nn; simp [lockOf, backs, takeA, putA, e1, ef, cd_0, nn, i2, e3]
  · have i2 : atI [.str "among", a, b] 2 = some b := rfl
    cases q : c.1.isSome with
    | true => rw [q] at nn; simp [lockOf, backs, takeA, putA, e1, ef, cd_0, nn, i2, e3]
    | false => rw [q] at nn; simp [lockOf, backs, takeA, putA, e1, ef, cd_0, nn, i2]
theorem call11 {k : Nat} {rs : List RV} : call (k + 1) 18 rs = runD 4 6 (b18 (call k)) rs := by
  rw [call]
  simp only [bodies]
theorem call12 {k : Nat} {rs : List RV} : call (k + 1) 19 rs = runD 4 11 (b19 (call k)) rs := by
  rw [call]
  simp only [bodies]
theorem fits_len {m : Nat} {q : Q} (hq : q.ok m) (hm : m ≤ 11) {t : CT} (h : Fits q t) : t.flat.length ≤ 4194304 := by
  have h1 := flat_len m q hq t h
  have h2 := parts_le m q hq
  have h3 : 4 ^ m ≤ 4 ^ 11 := Nat.pow_le_pow_right (by decide) hm
  omega
theorem kids_flat_len {m : Nat} {q : Q} (hq : q.ok m) (hm : m ≤ 11) {t : CT} (h : Fits q t) : ((t.kids.map fun t => t.flat.map cd).flatten).length ≤ 10000000 := by
  have h1 := fits_len hq hm h
  rw [flat_kids, List.length_cons] at h1
  have e : (t.kids.map fun t => t.flat.map cd).flatten = (t.kids.map CT.flat).flatten.map cd := by rw [List.map_flatten, List.map_map]; rfl
  rw [e, List.length_map]
  omega
theorem ls_kids {t : CT} : ls t = .lst (cd t.hd :: (t.kids.map CT.flat).flatten.map cd) := by
  show D.lst (t.flat.map cd) = _
  rw [flat_kids, List.map_cons]
theorem hear_ok {nm : Str} {x : Num} (hx : Fr x) : ∀ (m : Nat) (q : Q), q.ok m → m ≤ 11 → ∀ k, HrOk (call (2 * m + 6 + k)) nm x q
  | 0, _, h, _, _ => h.elim
  | m + 1, q, hq, hm, k => by
    intro t ht
    have ih1 : ∀ c ∈ kids q, HrOk (call (2 * m + 7 + k)) nm x c := fun c hc => by
      have := hear_ok (nm := nm) hx m c (kids_ok hq c hc) (by omega) (k + 1)
      rwa [show 2 * m + 6 + (k + 1) = 2 * m + 7 + k by omega] at this
    have ih0 : ∀ c ∈ kids q, HrOk (call (2 * m + 6 + k)) nm x c := fun c hc => hear_ok hx m c (kids_ok hq c hc) (by omega) k
    obtain ⟨p1, p2, p3⟩ := fits_prs ht
    have ht' := hear_fits (nm := nm) hx (m + 1) q hq t ht
    have es := split_ok (m := m) (k := m + 5 + k) hq ht
    rw [show m + (m + 5 + k) + 2 = 2 * m + 7 + k by omega] at es
    obtain ⟨w, ds, ed⟩ := toD_is q
    have hpk : ∀ p ∈ prs q t, p.1 ∈ kids q := fun p hp => by rw [← p1]; exact List.mem_map_of_mem hp
    rw [show 2 * (m + 1) + 6 + k = (2 * m + 7 + k) + 1 by omega, call12, b12_eq]
    by_cases hp : q.plainK
    · obtain ⟨h1, h2⟩ := hear_plain (nm := nm) (x := x) ht hp
      have hw : ¬ (w = "since" ∨ w = "among") := by
        cases q with
        | now => rw [Q.toD] at ed; cases ed; simp
        | nothing => rw [Q.toD] at ed; cases ed; simp
        | is y => rw [Q.toD] at ed; cases ed; simp
        | one w a => rw [Q.toD] at ed; cases ed; rcases hq.1 with rfl | rfl | rfl <;> simp
        | two w a b => rw [Q.toD] at ed; cases ed; rcases hp with rfl | rfl <;> simp
        | iff a b c => rw [Q.toD] at ed; cases ed; simp
        | num w j a => rw [Q.toD] at ed; cases ed; rcases hq.1 with ⟨h | h, _⟩ | ⟨h, _⟩ <;> subst h <;> simp
        | circ i j a => rw [Q.toD] at ed; cases ed; simp
      have c2 := children_ok (k := 2 * m + 6 + k) q
      rw [show 2 * m + 6 + k + 1 = 2 * m + 7 + k by omega] at c2
      have hz : zpp [.lst ((kids q).map Q.toD), .lst (t.kids.map ls)] = some ((prs q t).map fun p => .tup [p.1.toD, ls p.2]) := by
        rw [← zip_map (f := fun p : Q × CT => p.1.toD) (g := fun p : Q × CT => ls p.2)]
        have e1 : ((prs q t).map fun p => p.1.toD) = (kids q).map Q.toD := by rw [← p1, List.map_map]; rfl
        have e2 : ((prs q t).map fun p => ls p.2) = t.kids.map ls := by rw [← p2, List.map_map]; rfl
        rw [e1, e2]
        rfl
      have hlen : (prs q t).length ≤ 3 := by
        have := congrArg List.length p1
        rw [List.length_map] at this
        rw [this]
        exact kids_len q
      have hh := comp_hear (cc := call (2 * m + 7 + k)) (nm := nm) (x := x) (t := .val q.toD) (c := .val (ls t)) (p := .val (.lst (t.kids.map ls))) (prs q t) [] fun p hp => ⟨ih1 p.1 (hpk p hp), p3 p hp⟩
      have e2 : lcomp [10, 8] (icl zpp (acons (frz (ocall (call (2 * m + 7 + k) 9) 1 (cval (getv 0) (KR.ret [])))) (acons (getv 4) (KR.ret [])))) (gtp 2 (gsc (gnm 10) (gsc (gnm 8) gsn))) (KR.ret true) (EH (call (2 * m + 7 + k))) [some (.val q.toD), some (.val (ls t)), some (.val (.str nm)), some (W x), some (.val (.lst (t.kids.map ls))), none, none, none, none, none, none] =
          some (.ok (.olst ((hearT nm x q t).kids.map ls)), [some (.val q.toD), some (.val (ls t)), some (.val (.str nm)), some (W x), some (.val (.lst (t.kids.map ls))), none, none, none, none, none, none]) := by
        have hi : icl zpp (acons (frz (ocall (call (2 * m + 7 + k) 9) 1 (cval (getv 0) (KR.ret [])))) (acons (getv 4) (KR.ret []))) [some (.val q.toD), some (.val (ls t)), some (.val (.str nm)), some (W x), some (.val (.lst (t.kids.map ls))), none, none, none, none, none, none] = some (.ok ((prs q t).map fun p => .tup [p.1.toD, ls p.2]), [some (.val q.toD), some (.val (ls t)), some (.val (.str nm)), some (W x), some (.val (.lst (t.kids.map ls))), none, none, none, none, none, none]) :=
          icl_ok (as := [.lst ((kids q).map Q.toD), .lst (t.kids.map ls)]) (by
            generalize (kids q).map Q.toD = K at c2 ⊢
            generalize t.kids.map ls = L
            generalize q.toD = d at c2 ⊢
            simp [takeA, putA, c2]) hz
        have er : ((prs q t).map fun p => ls (hearT nm x p.1 p.2)) = (hearT nm x q t).kids.map ls := by rw [h2, List.map_map]; rfl
        rw [lcomp_ap, bnd_ap, hi]
        dsimp only
        rw [if_pos ⟨by rfl, by rw [size_line, List.length_map]; omega⟩]
        have hw1 : wipeE [some (.val q.toD), some (.val (ls t)), some (.val (.str nm)), some (W x), some (.val (.lst (t.kids.map ls))), none, none, none, none, none, none] [10, 8] = [some (.val q.toD), some (.val (ls t)), some (.val (.str nm)), some (W x), some (.val (.lst (t.kids.map ls))), none, none, none, none, none, none] := rfl
        have hw2 : ([some (.val q.toD), some (.val (ls t)), some (.val (.str nm)), some (W x), some (.val (.lst (t.kids.map ls))), none, none, none, none, none, none] : KR.Env).length = 11 := rfl
        rw [hw1, hw2, hh, List.nil_append, er]
        rfl
      have hk1 : (hearT nm x q t).kids.length ≤ 10 := by rw [h2, List.length_map]; omega
      have hk2 : t.kids.length ≤ 10 := by rw [← p2, List.length_map]; omega
      have e3 := comp_heads (it := its (getv 5)) (ρ0 := [some (.val q.toD), some (.val (ls t)), some (.val (.str nm)), some (W x), some (.val (.lst (t.kids.map ls))), some (.olst ((hearT nm x q t).kids.map ls)), none, none, none, none, none]) (ρ := [some (.val q.toD), some (.val (ls t)), some (.val (.str nm)), some (W x), some (.val (.lst (t.kids.map ls))), some (.val (.lst ((hearT nm x q t).kids.map ls))), none, none, none, none, none]) (hearT nm x q t).kids (by simp) rfl rfl hk1
      have e4 := comp_heads (it := its (getv 4)) (ρ0 := [some (.val q.toD), some (.val (ls t)), some (.val (.str nm)), some (W x), some (.val (.lst (t.kids.map ls))), some (.val (.lst ((hearT nm x q t).kids.map ls))), none, some (.val (.lst ((hearT nm x q t).kids.map fun t => opt t.hd.1))), none, none, none]) (ρ := [some (.val q.toD), some (.val (ls t)), some (.val (.str nm)), some (W x), some (.val (.lst (t.kids.map ls))), some (.val (.lst ((hearT nm x q t).kids.map ls))), none, some (.val (.lst ((hearT nm x q t).kids.map fun t => opt t.hd.1))), none, none, none]) t.kids (by simp) rfl rfl hk2
      have et : ((hearT nm x q t).kids.map fun t => opt t.hd.1) = ((prs q t).map fun p => (hearT nm x p.1 p.2).hd.1).map opt := by rw [h2, List.map_map, List.map_map]; rfl
      have ea : (t.kids.map fun t => opt t.hd.1) = ((prs q t).map fun p => p.2.hd.1).map opt := by rw [← p2, List.map_map, List.map_map]; rfl
      have e5 := own_ok (k := 2 * m + 3 + k) (nm := nm) hx hq hp (fits_hd ht) (T := (prs q t).map fun p => (hearT nm x p.1 p.2).hd.1) (H := (prs q t).map fun p => p.2.hd.1) (by rw [← p1, List.length_map, List.length_map]) (by rw [← p1, List.length_map, List.length_map]) fun o ho y hy => by
        obtain ⟨p, hp, rfl⟩ := List.mem_map.mp ho
        exact (fits_hd (hear_fits (nm := nm) hx m p.1 (kids_ok hq p.1 (hpk p hp)) p.2 (p3 p hp))).f y hy
      rw [show 2 * m + 3 + k + 4 = 2 * m + 7 + k by omega] at e5
      rw [← et, ← ea, ← h1] at e5
      have e6 := flat_all (a0 := some (.val q.toD)) (a1 := some (.val (ls t))) (a2 := some (.val (.str nm))) (a3 := some (W x)) (a4 := some (.val (.lst (t.kids.map ls)))) (a6 := some (.val (cd (hearT nm x q t).hd))) (a7 := some (.val (.lst ((hearT nm x q t).kids.map fun t => opt t.hd.1)))) (a10 := none) (h := .val (.lst ((hearT nm x q t).kids.map ls))) (hearT nm x q t).kids (.inr rfl) (by have := kids_flat_len hq hm ht'; omega)
      have hF : ((hearT nm x q t).kids.map CT.flat).flatten.map cd = ((hearT nm x q t).kids.map fun t => t.flat.map cd).flatten := by rw [List.map_flatten, List.map_map]; rfl
      have hFl := kids_flat_len hq hm ht'
      rw [← hF] at hFl
      have er := ls_kids (t := hearT nm x q t)
      rw [ed] at es e2 e3 e4 e5 e6 ⊢
      rw [er]
      exact plain_run hw es e2 e3 e4 flat_0 e5 e6 hFl
    · match q, t, hq, ht, hp with
      | .two w' a b, .n2 c u v, hq, ht, hp =>
        have hw : w' = "since" ∨ w' = "among" := by
          rcases hq.1 with h | h | h | h
          · exact absurd (Or.inl h) hp
          · exact absurd (Or.inr h) hp
          · exact .inl h
          · exact .inr h
        have hn : ¬ (w' = "less" ∨ w' = "same") := hp
        have ia := ih0 a (by simp [kids]) u ht.2.1
        have ib := ih0 b (by simp [kids]) v ht.2.2
        have ifc := first_cells_ok (k := m + 4 + k) (m := m) hq.2.2 (by omega)
        rw [show m + 2 + (m + 4 + k) = 2 * m + 6 + k by omega] at ifc
        have efl : D.lst (List.replicate b.parts (cd E0)) = ls (firstT b) := by
          show _ = D.lst ((firstT b).flat.map cd)
          rw [first_flat, List.map_replicate]
        have e11 := hsplit_run (pa := ls u) (pb := ls v) (n := .str nm) (X := fr x) hw ia (flat_0 (t := hearT nm x a u)) ifc ib
        rw [efl] at e11
        obtain ⟨u', hu'⟩ : ∃ u', u' = (if w' = "since" then (if (hearT nm x a u).hd.1.isSome then firstT b else hearT nm x b v) else (if (hearT nm x a u).hd.1.isSome then hearT nm x b v else v)) := ⟨_, rfl⟩
        have eu : (if w' = "since" then (if (hearT nm x a u).hd.1.isSome then ls (firstT b) else ls (hearT nm x b v)) else (if (hearT nm x a u).hd.1.isSome then ls (hearT nm x b v) else ls v)) = ls u' := by
          rw [hu']
          split <;> split <;> rfl
        rw [eu] at e11
        have et : hearT nm x (.two w' a b) (.n2 c u v) = .n2 (u'.hd.1, c.2) (hearT nm x a u) u' := by
          rw [hearT]
          rw [if_neg hn, ← hu']
          simp [ownC, hn]
        have hF := kids_flat_len hq hm ht'
        have hF2 := hF
        rw [show ((hearT nm x (.two w' a b) (.n2 c u v)).kids.map fun t => t.flat.map cd).flatten = ((hearT nm x (.two w' a b) (.n2 c u v)).kids.map CT.flat).flatten.map cd by rw [List.map_flatten, List.map_map]; rfl] at hF2
        have er := ls_kids (t := hearT nm x (.two w' a b) (.n2 c u v))
        rw [et] at er hF hF2 ⊢
        have e6 := flat_all (a0 := some (.val (Q.two w' a b).toD)) (a1 := some (.val (ls (.n2 c u v)))) (a2 := some (.val (.str nm))) (a3 := some (W x)) (a4 := some (.val (.lst [ls u, ls v]))) (a6 := some (.val (cd (u'.hd.1, c.2)))) (a7 := none) (a10 := none) (h := .val (.lst [ls (hearT nm x a u), ls u'])) [hearT nm x a u, u'] (.inr rfl) (by
          have h2 : ((([hearT nm x a u, u'] : List CT).map fun t => t.flat.map cd).flatten).length ≤ 10000000 := hF
          omega)
        have ez : (Q.two w' a b).toD = .tup [.str w', a.toD, b.toD] := by rw [Q.toD]
        rw [ez] at es e6 ⊢
        have e11' : call (2 * m + 7 + k) 18 [.val (.tup [.str w', a.toD, b.toD]), .val (.lst [ls u, ls v]), .val (.str nm), .val (fr x)] = some (.ok (.olst [ls (hearT nm x a u), ls u']), [.val (.tup [.str w', a.toD, b.toD]), .val (.lst [ls u, ls v]), .val (.str nm), .val (fr x)]) := by
          rw [show 2 * m + 7 + k = (2 * m + 6 + k) + 1 by omega, call11]
          exact e11
        rw [er]
        exact split_run hw es e11' (flat_0 (t := .n2 c u v)) (flat_0 (t := u')) e6 hF2
      | .now, _, _, _, hp => exact absurd trivial hp
      | .nothing, _, _, _, hp => exact absurd trivial hp
      | .is _, _, _, _, hp => exact absurd trivial hp
      | .one _ _, _, _, _, hp => exact absurd trivial hp
      | .iff _ _ _, _, _, _, hp => exact absurd trivial hp
      | .num _ _ _, _, _, _, hp => exact absurd trivial hp
      | .circ _ _ _, _, _, _, hp => exact absurd trivial hp
      | .two _ _ _, .n0 _, _, ht, _ => exact ht.elim
      | .two _ _ _, .n1 _ _, _, ht, _ => exact ht.elim
      | .two _ _ _, .n3 _ _ _ _, _, ht, _ => exact ht.elim
end My

set_option Elab.async false
set_option linter.all false
set_option maxRecDepth 100000
namespace My.Mn
open PySem L2 KR
def ans (f : List Rec → Option Num) (row : List Rec) : List (Option Num) := (List.range row.length).map fun c => f (row.take (c + 1))
def start : List (Option Num) → Nat → Nat → Nat
  | [], _, s => s
  | none :: r, i, s => start r (i + 1) s
  | some _ :: r, i, _ => start r (i + 1) (i + 1)
def mn : Q → List Rec → Option Num
  | .now, row => row.getLast?.map (·.2)
  | .nothing, _ => none
  | .is x, row => row.getLast?.bind fun r => if r.1 = x then some r.2 else none
  | .one w a, row => if row = [] then none else if w = "before" then mn a row.dropLast else if w = "last" then ((ans (mn a) row).filterMap id).getLast? else ((ans (mn a) row).filterMap id).head?
  | .two w a b, row => if row = [] then none else if w = "less" ∨ w = "same" then
      (match mn a row, mn b row with
        | some x, some y => if w = "less" then (if lt x y then some x else none) else (if x = y then some x else none)
        | _, _ => none)
    else if w = "among" then mn b (((row.zip (ans (mn a) row)).filter fun p => p.2.isSome).map (·.1))
    else mn b (row.drop (start (ans (mn a) row) 0 0))
  | .iff a b c, row => if row = [] then none else match mn a row with
    | none => mn c row
    | some _ => mn b row
  | .num w j a, row => if row = [] then none else if w = "times" then (if j ≤ ((ans (mn a) row).filterMap id).length then row.getLast?.map (·.2) else none)
    else if (amongst (ans (mn a) row) []).length < j then none else if w = "great" then (amongst (ans (mn a) row) [])[(amongst (ans (mn a) row) []).length - j]? else (amongst (ans (mn a) row) [])[j - 1]?
  | .circ i j a, row => if row = [] then none else if ((ans (mn a) row).filterMap id).length % i = j then row.getLast?.map (·.2) else none
def MnOk (cc : Nat → Cl) (q : Q) : Prop := ∀ row : List Rec, row.length ≤ 20 → (∀ r ∈ row, Fr r.2) → cc 8 [.val q.toD, RW row] = some (.ok (.val (opt (mn q row))), [.val q.toD, RW row])
theorem answers_comp {k : Nat} {q : Q} (h : MnOk (call k) q) {row : List Rec} (hl : row.length ≤ 20) (hf : ∀ r ∈ row, Fr r.2) {Z : M (List D)} {R : List Int} (hR : R = (List.range row.length).map fun (i : Nat) => (i : Int)) (hi : Z [some (.val q.toD), some (RW row), none] = some (.ok (ints' R), [some (.val q.toD), some (RW row), none])) :
    lcomp [2] Z (gnm 2) (KR.ret true) (frz (ocall (call k 8) 2 (cval (getv 0) (cval (cut (getv 1) (KR.ret none) (par (KR.bin gadd (getv 2) (KR.ret (.int 1))))) (KR.ret []))))) [some (.val q.toD), some (RW row), none] = some (.ok (.olst ((ans (mn q) row).map opt)), [some (.val q.toD), some (RW row), none]) := by
  have e := lcomp_pure (t := KR.ret true) (elt := frz (ocall (call k 8) 2 (cval (getv 0) (cval (cut (getv 1) (KR.ret none) (par (KR.bin gadd (getv 2) (KR.ret (.int 1))))) (KR.ret []))))) (p := fun _ => true) (f := fun d => match d with | .int c => opt (mn q (row.take (c.toNat + 1))) | _ => .non) (v := 2) hi (by simp) (by rfl) (by rw [size_line, hR]; simp; omega) (fun x hx => by simp) (fun x hx _ => by
    obtain ⟨z, hz, rfl⟩ := List.mem_map.mp hx
    rw [hR] at hz
    obtain ⟨c, hc, rfl⟩ := List.mem_map.mp hz
    have hc' := List.mem_range.mp hc
    have s := take_sl (ds := row.map rc) (c := c) (by rw [List.length_map]; exact hc')
    rw [← List.map_take] at s
    have m := h (row.take (c + 1)) (by rw [List.length_take]; omega) fun r hr => hf r (List.mem_of_mem_take hr)
    have m' : call k 8 [.val q.toD, .val (.lst ((row.take (c + 1)).map rc))] = some (.ok (.val (opt (mn q (row.take (c + 1))))), [.val q.toD, .val (.lst ((row.take (c + 1)).map rc))]) := m
    generalize (row.take (c + 1)).map rc = tk at s m'
    simp [asI, s, takeA, putA, m'])
  have e2 : ((ints' R).filter fun _ => true).map (fun d => match d with | .int c => opt (mn q (row.take (c.toNat + 1))) | _ => .non) = (ans (mn q) row).map opt := by
    rw [List.filter_eq_self.mpr fun _ _ => rfl, hR, List.map_map, List.map_map]
    unfold ans
    rw [List.map_map]
    rfl
  rw [e2] at e
  exact e
theorem row_rng {v0 : Option RV} {row : List Rec} (hl : row.length ≤ 20) : icl rng1 (acons (cal (f1 glen) (acons (getv 1) (KR.ret []))) (KR.ret [])) [v0, some (RW row), none] = some (.ok (ints' ((List.range row.length).map fun (i : Nat) => (i : Int))), [v0, some (RW row), none]) := by
  have h := rng_len (ds := row.map rc) (by rw [List.length_map]; omega)
  have e : (row.map rc).length = row.length := List.length_map ..
  rw [e] at h
  exact icl_ok (ρ' := [v0, some (RW row), none]) (as := [.int row.length]) (by simp) h
theorem b2_eq (cc : Nat → Cl) : b2 cc = sret (lcomp [2] (icl rng1 (acons (cal (f1 glen) (acons (getv 1) (KR.ret []))) (KR.ret []))) (gnm 2) (KR.ret true) (frz (ocall (cc 8) 2 (cval (getv 0) (cval (cut (getv 1) (KR.ret none) (par (KR.bin gadd (getv 2) (KR.ret (.int 1))))) (KR.ret [])))))) := rfl
theorem answers_ok {k : Nat} {q : Q} (h : MnOk (call k) q) {row : List Rec} (hl : row.length ≤ 20) (hf : ∀ r ∈ row, Fr r.2) : call (k + 1) 2 [.val q.toD, RW row] = some (.ok (.olst ((ans (mn q) row).map opt)), [.val q.toD, RW row]) := by
  have c := answers_comp h hl hf rfl (row_rng (v0 := some (.val q.toD)) hl)
  generalize hZ : icl rng1 (acons (cal (f1 glen) (acons (getv 1) (KR.ret []))) (KR.ret [])) = Z at c
  have z := answers_fin c
  have hb := b2_eq (call k)
  rw [hZ] at hb
  rw [← hb] at z
  rw [call]
  simp only [bodies]
  generalize b2 (call k) = B at z
  generalize q.toD = qd at z
  generalize (ans (mn q) row).map opt = L at z
  exact run2 (N := 3) (b := B) z (by decide)
end My.Mn

set_option Elab.async false
set_option linter.all false
set_option maxRecDepth 100000
namespace My.Mn
open PySem L2 KR
def isSm : D → Bool
  | .non => false
  | _ => true
theorem isSm_opt (o : Option Num) : isSm (opt o) = o.isSome := by cases o <;> rfl
theorem known_comp {Z : M (List D)} {ρ : KR.Env} {L : List (Option Num)} (hi : Z ρ = some (.ok (L.map opt), ρ)) (h3 : ρ[3]? = some none) (hL : L.length ≤ 1000) : lcomp [3] Z (gnm 3) (tst (una gnotN (getv 3))) (getv 3) ρ = some (.ok (.olst ((L.filterMap id).map fr)), ρ) := by
  have hv : 3 < ρ.length := (List.getElem?_eq_some_iff.mp h3).1
  have e := lcomp_pure (t := tst (una gnotN (getv 3))) (elt := getv 3) (p := isSm) (f := id) (v := 3) hi hv (by simp [okW, plainS, h3]) (by rw [size_line]; simp; omega)
    (fun d hd => by
      obtain ⟨o, ho, rfl⟩ := List.mem_map.mp hd
      simp [List.getElem?_set_self hv, notN_opt, isSm_opt]) (fun d hd _ => by simp [List.getElem?_set_self hv])
  have e2 : (((L.map opt).filter isSm).map id) = (L.filterMap id).map fr := by
    clear hi hL e
    induction L with
    | nil => rfl
    | cons o L ih =>
      cases o with
      | none => rw [List.map_cons, List.filter_cons_of_neg (by rw [isSm_opt]; exact Bool.false_ne_true), ih, List.filterMap_cons_none (by rfl)]
      | some x => rw [List.map_cons, List.filter_cons_of_pos (by rw [isSm_opt]; rfl), List.map_cons, ih, List.filterMap_cons_some (by rfl)]; rfl
  rw [e2] at e
  exact e
theorem ans_len {f : List Rec → Option Num} {row : List Rec} : (ans f row).length = row.length := by simp [ans]
theorem reached_run {Z : M RV} {w : Str} {d : D} {row : List Rec} {L : List Num} (kn : Z [some (.val (.tup [.str w, d])), some (RW row), none, none] = some (.ok (.olst (L.map fr)), [some (.val (.tup [.str w, d])), some (RW row), none, none])) (hw : w = "last" ∨ w = "first") : (seq (sset 2 Z) (seq (sif (tnot (tstV (getv 2))) (sret (val (KR.ret .non))) skip)
  (sret (val (ite' (tst (KR.bin geq (KR.bin gix (getv 0) (KR.ret (.int 0))) (KR.ret (.str "last")))) (KR.bin gix (getv 2) (una gneg (KR.ret (.int 1)))) (KR.bin gix (getv 2) (KR.ret (.int 0)))))))) [] [some (.val (.tup [.str w, d])), some (RW row), none, none] =
    some (.ok (.ret (.val (opt (if w = "last" then L.getLast? else L.head?)))), [some (.val (.tup [.str w, d])), some (RW row), some (.val (.lst (L.map fr))), none]) := by
  cases L with
  | nil => rcases hw with rfl | rfl <;> simp [kn, opt]
  | cons x L =>
    by_cases q : w = "last"
    · subst q
      have l := opt_last (x :: L) (by simp)
      rw [if_pos rfl]
      generalize (x :: L).getLast? = o at l ⊢
      rw [List.map_cons] at l kn
      simp [kn, l]
    · rw [if_neg q]
      simp [kn, q, opt]
abbrev ZR (cc : Nat → Cl) : M (List D) := its (frz (ocall (cc 2) 2 (cval (KR.bin gix (getv 0) (KR.ret (.int 1))) (cval (getv 1) (KR.ret [])))))
theorem b7_eq (cc : Nat → Cl) : b7 cc = (seq (sset 2 (lcomp [3] (ZR cc) (gnm 3) (tst (una gnotN (getv 3))) (getv 3))) (seq (sif (tnot (tstV (getv 2))) (sret (val (KR.ret .non))) skip)
  (sret (val (ite' (tst (KR.bin geq (KR.bin gix (getv 0) (KR.ret (.int 0))) (KR.ret (.str "last")))) (KR.bin gix (getv 2) (una gneg (KR.ret (.int 1)))) (KR.bin gix (getv 2) (KR.ret (.int 0)))))))) := rfl
theorem reached_it {cc : Nat → Cl} {w : Str} {a : Q} {row : List Rec} (e1 : cc 2 [.val a.toD, RW row] = some (.ok (.olst ((ans (mn a) row).map opt)), [.val a.toD, RW row])) : ZR cc ([some (.val (.tup [.str w, a.toD])), some (RW row), none, none] : KR.Env) = some (.ok ((ans (mn a) row).map opt), [some (.val (.tup [.str w, a.toD])), some (RW row), none, none]) := by
  generalize (ans (mn a) row).map opt = X at e1 ⊢
  simp [takeA, putA, e1]
theorem reached_kn {k : Nat} {w : Str} {a : Q} (h : MnOk (call k) a) {row : List Rec} (hl : row.length ≤ 20) (hf : ∀ r ∈ row, Fr r.2) : lcomp [3] (ZR (call (k + 1))) (gnm 3) (tst (una gnotN (getv 3))) (getv 3) [some (.val (.tup [.str w, a.toD])), some (RW row), none, none] = some (.ok (.olst (((ans (mn a) row).filterMap id).map fr)), [some (.val (.tup [.str w, a.toD])), some (RW row), none, none]) :=
  known_comp (reached_it (answers_ok h hl hf)) rfl (by rw [ans_len]; omega)
theorem reached_end {cc : Nat → Cl} {w : Str} {d : D} {row : List Rec} {L : List Num} (kn : lcomp [3] (ZR cc) (gnm 3) (tst (una gnotN (getv 3))) (getv 3) [some (.val (.tup [.str w, d])), some (RW row), none, none] = some (.ok (.olst (L.map fr)), [some (.val (.tup [.str w, d])), some (RW row), none, none])) (hw : w = "last" ∨ w = "first") : runD 2 4 (b7 cc) [.val (.tup [.str w, d]), RW row] = some (.ok (.val (opt (if w = "last" then L.getLast? else L.head?))), [.val (.tup [.str w, d]), RW row]) := by
  have r := reached_run kn hw
  rw [← b7_eq cc] at r
  generalize b7 cc = B at r ⊢
  exact run2' (N := 4) (b := B) r (by decide)
theorem mn_one {w : Str} {a : Q} {row : List Rec} (h0 : row ≠ []) (hw : w = "last" ∨ w = "first") : mn (.one w a) row = if w = "last" then ((ans (mn a) row).filterMap id).getLast? else ((ans (mn a) row).filterMap id).head? := by
  have nb : ¬ w = "before" := by
    have n1 : ¬ ("last" : Str) = "before" := by decide +kernel
    have n2 : ¬ ("first" : Str) = "before" := by decide +kernel
    rcases hw with e | e <;> rw [e] <;> assumption
  show (if row = [] then none else if w = "before" then mn a row.dropLast else if w = "last" then ((ans (mn a) row).filterMap id).getLast? else ((ans (mn a) row).filterMap id).head?) = _
  rw [if_neg h0, if_neg nb]
theorem q_one {w : Str} {a : Q} : (Q.one w a).toD = .tup [.str w, a.toD] := by rw [Q.toD]
theorem call7 {k : Nat} {rs : List RV} : call (k + 2) 7 rs = runD 2 4 (b7 (call (k + 1))) rs := by
  rw [show k + 2 = (k + 1) + 1 from rfl, call]
  simp only [bodies]
theorem reached_ok {k : Nat} {w : Str} {a : Q} (h : MnOk (call k) a) {row : List Rec} (hl : row.length ≤ 20) (hf : ∀ r ∈ row, Fr r.2) (h0 : row ≠ []) (hw : w = "last" ∨ w = "first") :
    call (k + 2) 7 [.val (Q.one w a).toD, RW row] = some (.ok (.val (opt (mn (.one w a) row))), [.val (Q.one w a).toD, RW row]) := by
  have z := reached_end (reached_kn (w := w) h hl hf) hw
  rw [← mn_one h0 hw, ← q_one] at z
  rw [call7]
  exact z
end My.Mn

set_option Elab.async false
set_option linter.all false
set_option maxRecDepth 100000
namespace My.Mn
open PySem L2 KR
theorem counted_run {Z : M RV} {w : Str} {j : Nat} {d : D} {row : List Rec} {L : List Num} {r : Rec} (hr : atI (row.map rc) (-1) = some (rc r)) (kn : Z [some (.val (.tup [.str w, .int j, d])), some (RW row), none, none] = some (.ok (.olst (L.map fr)), [some (.val (.tup [.str w, .int j, d])), some (RW row), none, none])) (hw : w = "times") :
    (seq (sset 2 (val (cal (f1 glen) (acons (frz Z) (KR.ret [])))))
  (seq (sif (tst (KR.bin geq (KR.bin gix (getv 0) (KR.ret (.int 0))) (KR.ret (.str "times")))) (sret (val (ite' (tst (KR.bin gge (getv 2) (KR.bin gix (getv 0) (KR.ret (.int 1))))) (KR.bin gix (KR.bin gix (getv 1) (una gneg (KR.ret (.int 1)))) (KR.ret (.int 1))) (KR.ret .non)))) skip)
  (sret (val (ite' (tst (KR.bin geq (KR.bin gmod (getv 2) (KR.bin gix (getv 0) (KR.ret (.int 1)))) (KR.bin gix (getv 0) (KR.ret (.int 2))))) (KR.bin gix (KR.bin gix (getv 1) (una gneg (KR.ret (.int 1)))) (KR.ret (.int 1))) (KR.ret .non)))))) [] [some (.val (.tup [.str w, .int j, d])), some (RW row), none, none] =
    some (.ok (.ret (.val (opt (if j ≤ L.length then some r.2 else none)))), [some (.val (.tup [.str w, .int j, d])), some (RW row), some (KR.I L.length), none]) := by
  subst hw
  by_cases q : j ≤ L.length
  · have q' : (j : Int) ≤ (L.length : Int) := by omega
    rw [if_pos q]
    simp [kn, q', hr, opt, q]
  · rw [if_neg q]
    simp [kn, hr, opt, q]
abbrev ZC (cc : Nat → Cl) : M (List D) := its (frz (ocall (cc 2) 2 (cval (KR.bin gix (getv 0) (una gneg (KR.ret (.int 1)))) (cval (getv 1) (KR.ret [])))))
theorem b5_eq (cc : Nat → Cl) : b5 cc = (seq (sset 2 (val (cal (f1 glen) (acons (frz (lcomp [3] (ZC cc) (gnm 3) (tst (una gnotN (getv 3))) (getv 3))) (KR.ret [])))))
  (seq (sif (tst (KR.bin geq (KR.bin gix (getv 0) (KR.ret (.int 0))) (KR.ret (.str "times")))) (sret (val (ite' (tst (KR.bin gge (getv 2) (KR.bin gix (getv 0) (KR.ret (.int 1))))) (KR.bin gix (KR.bin gix (getv 1) (una gneg (KR.ret (.int 1)))) (KR.ret (.int 1))) (KR.ret .non)))) skip)
  (sret (val (ite' (tst (KR.bin geq (KR.bin gmod (getv 2) (KR.bin gix (getv 0) (KR.ret (.int 1)))) (KR.bin gix (getv 0) (KR.ret (.int 2))))) (KR.bin gix (KR.bin gix (getv 1) (una gneg (KR.ret (.int 1)))) (KR.ret (.int 1))) (KR.ret .non)))))) := rfl
theorem counted_it {cc : Nat → Cl} {x y : D} {a : Q} {row : List Rec} (e1 : cc 2 [.val a.toD, RW row] = some (.ok (.olst ((ans (mn a) row).map opt)), [.val a.toD, RW row])) : ZC cc ([some (.val (.tup [x, y, a.toD])), some (RW row), none, none] : KR.Env) = some (.ok ((ans (mn a) row).map opt), [some (.val (.tup [x, y, a.toD])), some (RW row), none, none]) := by
  generalize (ans (mn a) row).map opt = X at e1 ⊢
  have i3 : atI [x, y, a.toD] (-1) = some a.toD := rfl
  simp [takeA, putA, e1, i3]
theorem counted_end {cc : Nat → Cl} {w : Str} {j : Nat} {d : D} {row : List Rec} {L : List Num} {r : Rec} (hr : atI (row.map rc) (-1) = some (rc r)) (kn : lcomp [3] (ZC cc) (gnm 3) (tst (una gnotN (getv 3))) (getv 3) [some (.val (.tup [.str w, .int j, d])), some (RW row), none, none] = some (.ok (.olst (L.map fr)), [some (.val (.tup [.str w, .int j, d])), some (RW row), none, none])) (hw : w = "times") :
    runD 2 4 (b5 cc) [.val (.tup [.str w, .int j, d]), RW row] = some (.ok (.val (opt (if j ≤ L.length then some r.2 else none))), [.val (.tup [.str w, .int j, d]), RW row]) := by
  have r := counted_run hr kn hw
  rw [← b5_eq cc] at r
  generalize b5 cc = B at r ⊢
  exact run2' (N := 4) (b := B) r (by decide)
theorem mn_times {w : Str} {j : Nat} {a : Q} {row : List Rec} {r : Rec} (h0 : row ≠ []) (hr : row.getLast? = some r) (hw : w = "times") : mn (.num w j a) row = if j ≤ ((ans (mn a) row).filterMap id).length then some r.2 else none := by
  subst hw
  show (if row = [] then none else if ("times" : Str) = "times" then (if j ≤ ((ans (mn a) row).filterMap id).length then row.getLast?.map (·.2) else none) else _) = _
  rw [if_neg h0, if_pos rfl, hr]
  rfl
theorem q_num {w : Str} {j : Nat} {a : Q} : (Q.num w j a).toD = .tup [.str w, .int j, a.toD] := by rw [Q.toD]
theorem call5 {k : Nat} {rs : List RV} : call (k + 2) 5 rs = runD 2 4 (b5 (call (k + 1))) rs := by
  rw [show k + 2 = (k + 1) + 1 from rfl, call]
  simp only [bodies]
theorem times_ok {k j : Nat} {w : Str} {a : Q} (h : MnOk (call k) a) {row : List Rec} (hl : row.length ≤ 20) (hf : ∀ r ∈ row, Fr r.2) (h0 : row ≠ []) (hw : w = "times") :
    call (k + 2) 5 [.val (Q.num w j a).toD, RW row] = some (.ok (.val (opt (mn (.num w j a) row))), [.val (Q.num w j a).toD, RW row]) := by
  obtain ⟨r, r1, r2⟩ := row_last h0
  have z := counted_end (j := j) r2 (known_comp (counted_it (x := .str w) (y := .int j) (answers_ok h hl hf)) rfl (by rw [ans_len]; omega)) hw
  rw [← mn_times h0 r1 hw, ← q_num] at z
  rw [call5]
  exact z
end My.Mn

set_option Elab.async false
set_option linter.all false
set_option maxRecDepth 100000
namespace My.Mn
open PySem L2 KR
def cmpF (w : Str) (o p : Option Num) : Option Num := match o, p with
  | some x, some y => if w = "less" then (if lt x y then some x else none) else (if x = y then some x else none)
  | _, _ => none
theorem compared_run {cc : Nat → Cl} {w : Str} {x y : D} {row : List Rec} {o p : Option Num} (e1 : cc 8 [.val x, RW row] = some (.ok (.val (opt o)), [.val x, RW row])) (e2 : cc 8 [.val y, RW row] = some (.ok (.val (opt p)), [.val y, RW row]))
    (el : ∀ u v, o = some u → p = some v → cc 0 [W u, W v] = some (.ok (.val (.bl (decide (lt u v)))), [W u, W v])) :
    runD 2 4 (b3 cc) [.val (.tup [.str w, x, y]), RW row] = some (.ok (.val (opt (cmpF w o p))), [.val (.tup [.str w, x, y]), RW row]) := by
  have i2 : atI [.str w, x, y] 2 = some y := rfl
  unfold runD b3
  have nn : gisN .non = some (.bl true) := rfl
  have nu : ∀ u : Num, gisN (fr u) = some (.bl false) := fun _ => rfl
  cases o with
  | none => simp [lockOf, backs, takeA, putA, e1, e2, i2, opt, cmpF, nn, nu]
  | some u =>
    cases p with
    | none => simp [lockOf, backs, takeA, putA, e1, e2, i2, opt, cmpF, nn, nu]
    | some v =>
      have l := el u v rfl rfl
      have n1 : gisN (fr u) = some (.bl false) := rfl
      have n2 : gisN (fr v) = some (.bl false) := rfl
      by_cases q : w = "less"
      · subst q
        by_cases q2 : lt u v
        · simp [lockOf, backs, takeA, putA, e1, e2, i2, opt, cmpF, n1, n2, l, q2]
        · simp [lockOf, backs, takeA, putA, e1, e2, i2, opt, cmpF, n1, n2, l, q2]
      · by_cases q2 : u = v
        · simp [lockOf, backs, takeA, putA, e1, e2, i2, opt, cmpF, n1, n2, l, q, q2]
        · simp [lockOf, backs, takeA, putA, e1, e2, i2, opt, cmpF, n1, n2, l, q, q2]
end My.Mn

set_option Elab.async false
set_option linter.all false
set_option maxRecDepth 100000
namespace My.Mn
open PySem L2 KR
theorem amongst_good : ∀ (L : List (Option Num)) (A : List Num), (∀ x, some x ∈ L → Fr x) → Good A → Good (amongst L A) ∧ (amongst L A).length ≤ A.length + L.length
  | [], A, _, G => ⟨G, Nat.le_refl _⟩
  | none :: L, A, h, G => by
    have := amongst_good L A (fun x q => h x (List.mem_cons_of_mem _ q)) G
    rw [amongst]
    exact ⟨this.1, by rw [List.length_cons]; omega⟩
  | some x :: L, A, h, G => by
    have hx := h x List.mem_cons_self
    have := amongst_good L (ins x A) (fun x q => h x (List.mem_cons_of_mem _ q)) (ins_good hx G)
    have h2 := ins_len (x := x) A
    rw [amongst]
    exact ⟨this.1, by rw [List.length_cons]; omega⟩
abbrev BO (cc : Nat → Cl) : S := (sif (tst (una gnotN (getv 3))) (sset 2 (ocall (cc 1) 2 (cval (getv 3) (cval (getv 2) (KR.ret []))))) skip)
theorem ordered_for {cc : Nat → Cl} {t row : RV} (hi : InsOk cc) : ∀ (L : List (Option Num)) (A : List Num) (v : Option RV), (∀ x, some x ∈ L → Fr x) → Good A → A.length + L.length ≤ 1000 → ∃ v', forL (gnm 3) (BO cc) (L.map opt) [] [some t, some row, some (T A), v] = some (.ok .nx, [some t, some row, some (T (amongst L A)), v'])
  | [], A, v, _, _, _ => ⟨v, rfl⟩
  | none :: L, A, v, h, G, hl => by
    rw [List.length_cons] at hl
    obtain ⟨v', e⟩ := ordered_for (t := t) (row := row) hi L A (some (.val .non)) (fun x q => h x (List.mem_cons_of_mem _ q)) G (by omega)
    refine ⟨v', ?_⟩
    have n0 : gnotN .non = some (.bl false) := rfl
    rw [List.map_cons, amongst, ← e, forL_nx (ρ1 := [some t, some row, some (T A), some (.val .non)]) (ρ2 := [some t, some row, some (T A), some (.val .non)]) (by simp [opt]) (by simp [n0])]
  | some x :: L, A, v, h, G, hl => by
    rw [List.length_cons] at hl
    have hx := h x List.mem_cons_self
    have h2 := ins_len (x := x) A
    obtain ⟨v', e⟩ := ordered_for (t := t) (row := row) hi L (ins x A) (some (W x)) (fun x q => h x (List.mem_cons_of_mem _ q)) (ins_good hx G) (by omega)
    refine ⟨v', ?_⟩
    have n0 : gnotN (fr x) = some (.bl true) := rfl
    have i := hi x A hx G (by omega)
    rw [List.map_cons, amongst, ← e, forL_nx (ρ1 := [some t, some row, some (T A), some (W x)]) (ρ2 := [some t, some row, some (T (ins x A)), some (W x)]) (by simp [opt]) ?_]
    generalize A.map fr = A1 at i ⊢
    generalize (ins x A).map fr = A2 at i ⊢
    simp [n0, takeA, putA, i]
def ordF (w : Str) (j : Nat) (A : List Num) : Option Num := if A.length < j then none else if w = "great" then A[A.length - j]? else A[j - 1]?
theorem ordered_run {cc : Nat → Cl} {w : Str} {j : Nat} {d r : D} {X : List D} {A : List Num} {v' : Option RV} (e1 : cc 2 [.val d, .val r] = some (.ok (.olst X), [.val d, .val r]))
    (ef : forL (gnm 3) (BO cc) X [] [some (.val (.tup [.str w, .int j, d])), some (.val r), some (.val (.tup [])), none] = some (.ok .nx, [some (.val (.tup [.str w, .int j, d])), some (.val r), some (T A), v'])) (hj : 1 ≤ j) :
    runD 2 4 (b4 cc) [.val (.tup [.str w, .int j, d]), .val r] = some (.ok (.val (opt (ordF w j A))), [.val (.tup [.str w, .int j, d]), .val r]) := by
  have i2 : atI [.str w, .int j, d] 2 = some d := rfl
  unfold runD b4
  by_cases q : A.length < j
  · have q' : (A.length : Int) < (j : Int) := by omega
    simp [lockOf, backs, takeA, putA, e1, i2, ef, ordF, q, q', opt]
  · have q' : ¬ (A.length : Int) < (j : Int) := by omega
    have a1 := opt_at_s (A := A) (j := j) (by omega) hj
    have a2 := opt_at_1 (A := A) (j := j) (by omega) hj
    by_cases q2 : w = "great"
    · subst q2
      simp [lockOf, backs, takeA, putA, e1, i2, ef, ordF, q, q', a1]
    · simp [lockOf, backs, takeA, putA, e1, i2, ef, ordF, q, q', a2, q2]
theorem call4 {k : Nat} {rs : List RV} : call (k + 2) 4 rs = runD 2 4 (b4 (call (k + 1))) rs := by
  rw [show k + 2 = (k + 1) + 1 from rfl, call]
  simp only [bodies]
theorem last_fr {row : List Rec} (hf : ∀ r ∈ row, Fr r.2) {x : Num} (h : row.getLast?.map (·.2) = some x) : Fr x := by
  cases e : row.getLast? with
  | none => rw [e] at h; cases h
  | some r =>
    rw [e] at h
    have := hf r (List.mem_of_getLast? e)
    rwa [← (Option.some.inj h : r.2 = x)]
theorem amongst_sub : ∀ (L : List (Option Num)) (A : List Num) (x : Num), x ∈ amongst L A → x ∈ A ∨ some x ∈ L
  | [], A, x, h => .inl h
  | none :: L, A, x, h => (amongst_sub L A x h).imp id (List.mem_cons_of_mem _)
  | some y :: L, A, x, h => by
    rcases amongst_sub L (ins y A) x h with h | h
    · unfold ins at h
      split at h
      · exact .inl h
      · rcases List.mem_append.mp h with h | h
        · exact .inl (List.mem_filter.mp h).1
        · rcases List.mem_cons.mp h with h | h
          · exact .inr (by rw [h]; exact List.mem_cons_self)
          · exact .inl (List.mem_filter.mp h).1
    · exact .inr (List.mem_cons_of_mem _ h)
theorem ans_mem {f : List Rec → Option Num} {row : List Rec} {o : Option Num} (h : o ∈ ans f row) : ∃ c, c < row.length ∧ f (row.take (c + 1)) = o := by
  obtain ⟨c, hc, e⟩ := List.mem_map.mp h
  exact ⟨c, List.mem_range.mp hc, e⟩
theorem mn_fr : ∀ (q : Q) (row : List Rec), (∀ r ∈ row, Fr r.2) → ∀ x, mn q row = some x → Fr x
  | .now, row, hf, x, h => last_fr hf h
  | .nothing, row, hf, x, h => by cases h
  | .is y, row, hf, x, h => by
    unfold mn at h
    refine last_fr hf (x := x) ?_
    cases e : row.getLast? with
    | none => rw [e] at h; cases h
    | some r =>
      rw [e] at h
      show some r.2 = some x
      have h' : (if r.1 = y then some r.2 else none) = some x := h
      split at h'
      · exact h'
      · cases h'
  | .one w a, row, hf, x, h => by
    unfold mn at h
    have sub : ∀ o ∈ (ans (mn a) row).filterMap id, Fr o := fun o ho => by
      obtain ⟨o', h1, h2⟩ := List.mem_filterMap.mp ho
      obtain ⟨c, _, h3⟩ := ans_mem h1
      exact mn_fr a (row.take (c + 1)) (fun r hr => hf r (List.mem_of_mem_take hr)) o (by rw [h3]; exact h2)
    split at h
    · cases h
    · split at h
      · exact mn_fr a row.dropLast (fun r hr => hf r ((List.dropLast_sublist _).subset hr)) x h
      · split at h
        · exact sub x (List.mem_of_getLast? h)
        · exact sub x (List.mem_of_mem_head? h)
  | .two w a b, row, hf, x, h => by
    unfold mn at h
    split at h
    · cases h
    · split at h
      · cases e : mn a row with
        | none => rw [e] at h; cases h
        | some u =>
          have hu := mn_fr a row hf u e
          rw [e] at h
          cases e2 : mn b row with
          | none => rw [e2] at h; cases h
          | some v =>
            rw [e2] at h
            dsimp only at h
            have : some u = some x := by
              split at h <;> split at h <;> first | exact h | cases h
            rwa [← Option.some.inj this]
      · split at h
        · refine mn_fr b _ (fun r hr => ?_) x h
          obtain ⟨p, hp, rfl⟩ := List.mem_map.mp hr
          exact hf p.1 (List.of_mem_zip (List.mem_filter.mp hp).1).1
        · exact mn_fr b _ (fun r hr => hf r (List.mem_of_mem_drop hr)) x h
  | .iff a b c, row, hf, x, h => by
    unfold mn at h
    split at h
    · cases h
    · split at h
      · exact mn_fr c row hf x h
      · exact mn_fr b row hf x h
  | .num w j a, row, hf, x, h => by
    unfold mn at h
    have sub : ∀ o ∈ amongst (ans (mn a) row) [], Fr o := fun o ho => by
      rcases amongst_sub _ _ _ ho with q | q
      · cases q
      · obtain ⟨c, _, h3⟩ := ans_mem q
        exact mn_fr a (row.take (c + 1)) (fun r hr => hf r (List.mem_of_mem_take hr)) o h3
    split at h
    · cases h
    · split at h
      · split at h
        · exact last_fr hf h
        · cases h
      · split at h
        · cases h
        · split at h
          · exact sub x (List.mem_of_getElem? h)
          · exact sub x (List.mem_of_getElem? h)
  | .circ i j a, row, hf, x, h => by
    unfold mn at h
    split at h
    · cases h
    · split at h
      · exact last_fr hf h
      · cases h
theorem ans_fr {q : Q} {row : List Rec} (hf : ∀ r ∈ row, Fr r.2) : ∀ x, some x ∈ ans (mn q) row → Fr x := fun x h => by
  obtain ⟨c, _, h3⟩ := ans_mem h
  exact mn_fr q (row.take (c + 1)) (fun r hr => hf r (List.mem_of_mem_take hr)) x h3
theorem mn_num {w : Str} {j : Nat} {a : Q} {row : List Rec} (h0 : row ≠ []) (hw : w = "great" ∨ w = "least") : mn (.num w j a) row = ordF w j (amongst (ans (mn a) row) []) := by
  have nt : ¬ w = "times" := by
    have n1 : ¬ ("great" : Str) = "times" := by decide +kernel
    have n2 : ¬ ("least" : Str) = "times" := by decide +kernel
    rcases hw with e | e <;> rw [e] <;> assumption
  unfold mn ordF
  rw [if_neg h0, if_neg nt]
theorem ordered_ok {k j : Nat} {w : Str} {a : Q} (h : MnOk (call k) a) (hk : 1 ≤ k) {row : List Rec} (hl : row.length ≤ 20) (hf : ∀ r ∈ row, Fr r.2) (h0 : row ≠ []) (hj : 1 ≤ j) (hw : w = "great" ∨ w = "least") :
    call (k + 2) 4 [.val (Q.num w j a).toD, RW row] = some (.ok (.val (opt (mn (.num w j a) row))), [.val (Q.num w j a).toD, RW row]) := by
  obtain ⟨n, rfl⟩ : ∃ n, k = n + 1 := ⟨k - 1, by omega⟩
  have ea := answers_ok h hl hf
  obtain ⟨v', ef⟩ := ordered_for (cc := call (n + 1 + 1)) (t := .val (.tup [.str w, .int j, a.toD])) (row := RW row) (fun x A hx G hA => inserted_eq (n := n) hx G hA) (ans (mn a) row) [] none (ans_fr hf) good_nil (by rw [ans_len, List.length_nil]; omega)
  rw [mn_num h0 hw, q_num, call4]
  generalize (ans (mn a) row).map opt = X at ea ef
  generalize amongst (ans (mn a) row) [] = A at ef ⊢
  generalize a.toD = d at *
  generalize call (n + 1 + 1) = cc at *
  exact ordered_run ea ef hj
end My.Mn

set_option Elab.async false
set_option linter.all false
set_option maxRecDepth 100000
namespace My.Mn
open PySem L2 KR
theorem circle_run {cc : Nat → Cl} {i j : Nat} {d : D} {row : List Rec} {L : List Num} {r : Rec} (hi : 0 < i) (hr : atI (row.map rc) (-1) = some (rc r)) (kn : lcomp [3] (ZC cc) (gnm 3) (tst (una gnotN (getv 3))) (getv 3) [some (.val (.tup [.str "circle", .int i, .int j, d])), some (RW row), none, none] = some (.ok (.olst (L.map fr)), [some (.val (.tup [.str "circle", .int i, .int j, d])), some (RW row), none, none])) :
    runD 2 4 (b5 cc) [.val (.tup [.str "circle", .int i, .int j, d]), RW row] = some (.ok (.val (opt (if L.length % i = j then some r.2 else none))), [.val (.tup [.str "circle", .int i, .int j, d]), RW row]) := by
  have gm : gmod (.int (L.length : Int)) (.int (i : Int)) = some (.int ((L.length % i : Nat) : Int)) := by rw [gmod_pos (by omega)]; rfl
  have i2 : atI [.str "circle", .int i, .int j, d] 2 = some (.int j) := rfl
  rw [b5_eq]
  generalize hZ : lcomp [3] (ZC cc) (gnm 3) (tst (una gnotN (getv 3))) (getv 3) = Z at kn ⊢
  unfold runD
  by_cases q : L.length % i = j
  · have q' : ((L.length % i : Nat) : Int) = (j : Int) := by rw [q]
    rw [if_pos q]
    generalize ((L.length % i : Nat) : Int) = m at gm q'
    simp [lockOf, backs, kn, gm, i2, q', hr, opt]
  · have q' : ¬ ((L.length % i : Nat) : Int) = (j : Int) := by omega
    rw [if_neg q]
    generalize ((L.length % i : Nat) : Int) = m at gm q'
    simp [lockOf, backs, kn, gm, i2, q', hr, opt]
theorem circle_it {cc : Nat → Cl} {x y z : D} {a : Q} {row : List Rec} (e1 : cc 2 [.val a.toD, RW row] = some (.ok (.olst ((ans (mn a) row).map opt)), [.val a.toD, RW row])) : ZC cc ([some (.val (.tup [x, y, z, a.toD])), some (RW row), none, none] : KR.Env) = some (.ok ((ans (mn a) row).map opt), [some (.val (.tup [x, y, z, a.toD])), some (RW row), none, none]) := by
  generalize (ans (mn a) row).map opt = X at e1 ⊢
  have i3 : atI [x, y, z, a.toD] (-1) = some a.toD := rfl
  simp [takeA, putA, e1, i3]
theorem q_circ {i j : Nat} {a : Q} : (Q.circ i j a).toD = .tup [.str "circle", .int i, .int j, a.toD] := by rw [Q.toD]
theorem circle_ok {k i j : Nat} {a : Q} (h : MnOk (call k) a) {row : List Rec} (hl : row.length ≤ 20) (hf : ∀ r ∈ row, Fr r.2) (h0 : row ≠ []) (hi : 0 < i) :
    call (k + 2) 5 [.val (Q.circ i j a).toD, RW row] = some (.ok (.val (opt (mn (.circ i j a) row))), [.val (Q.circ i j a).toD, RW row]) := by
  obtain ⟨r, r1, r2⟩ := row_last h0
  have z := circle_run (j := j) hi r2 (known_comp (circle_it (x := .str "circle") (y := .int i) (z := .int j) (answers_ok h hl hf)) rfl (by rw [ans_len]; omega))
  have e : mn (.circ i j a) row = if ((ans (mn a) row).filterMap id).length % i = j then some r.2 else none := by
    unfold mn
    rw [if_neg h0, r1]
    rfl
  rw [e, q_circ, call5]
  exact z
def pickF (row : List Rec) (L : List (Option Num)) : List Rec := ((row.zip L).filter fun p => p.2.isSome).map (·.1)
theorem pick_comp {t : RV} {row : List Rec} {L : List (Option Num)} (hL : L.length = row.length) (hl : row.length ≤ 1000) {Z : M (List D)} (hZ : Z [some t, some (RW row), some (.olst (L.map opt)), none, none, none] = some (.ok (ints' (upto row.length)), [some t, some (RW row), some (.olst (L.map opt)), none, none, none])) :
    ∃ r, isL r (L.map opt) ∧ lcomp [4] Z (gnm 4) (tst (una gnotN (KR.bin gix (getv 2) (getv 4)))) (KR.bin gix (getv 1) (getv 4)) [some t, some (RW row), some (.olst (L.map opt)), none, none, none] = some (.ok (.olst ((pickF row L).map rc)), [some t, some (RW row), some r, none, none, none]) := by
  have h := lcomp_inv (rs := (upto row.length).map fun i => if (L[i.toNat]?.join).isSome then (row[i.toNat]?).map rc else none) (v := 4) (t := tst (una gnotN (KR.bin gix (getv 2) (getv 4)))) (elt := KR.bin gix (getv 1) (getv 4)) (Iv := fun σ => ∃ r, isL r (L.map opt) ∧ σ = [some t, some (RW row), some r, none, none, none]) hZ (by simp) (by rfl) (by simp; omega) ⟨_, .inl rfl, rfl⟩
    (all2_map (upto row.length) fun i hi => by
      obtain ⟨c, hc, rfl⟩ := List.mem_map.mp hi
      have hc' := List.mem_range.mp hc
      rintro σ ⟨r, hr, rfl⟩ _
      have a1 : atI (L.map opt) ((c : Nat) : Int) = some (opt L[c]) := by rw [KR.atI_nat (by rw [List.length_map]; omega)]; simp
      have a2 : atI (row.map rc) ((c : Nat) : Int) = some (rc row[c]) := by rw [KR.atI_nat (by rw [List.length_map]; omega)]; simp
      have a3 : L[((c : Nat) : Int).toNat]?.join = L[c] := by simp [show c < L.length by omega]
      have a4 : (row[((c : Nat) : Int).toNat]?).map rc = some (rc row[c]) := by simp [hc']
      rw [a3, a4]
      have nn := notN_opt L[c]
      generalize L.map opt = X at *
      constructor
      · intro e
        have e' : (L[c]).isSome = false := by
          cases q : (L[c]).isSome with
          | false => rfl
          | true => rw [q] at e; cases e
        rw [e'] at nn
        refine ⟨[some t, some (RW row), some (.val (.lst X)), none, some (KR.I c), none], ?_, rfl, rfl, _, .inr rfl, rfl⟩
        rcases hr with rfl | rfl <;> simp [a1, nn]
      · intro y e
        have e' : (L[c]).isSome = true ∧ rc row[c] = y := by
          cases q : (L[c]).isSome with
          | false => rw [q] at e; cases e
          | true => rw [q] at e; exact ⟨rfl, Option.some.inj e⟩
        obtain ⟨e1, rfl⟩ := e'
        rw [e1] at nn
        refine ⟨[some t, some (RW row), some (.val (.lst X)), none, some (KR.I c), none], [some t, some (RW row), some (.val (.lst X)), none, some (KR.I c), none], ?_, ?_, rfl, rfl, _, .inr rfl, rfl⟩
        · rcases hr with rfl | rfl <;> simp [a1, nn]
        · simp [a2])
  obtain ⟨σ, ⟨r, hr, rfl⟩, hlen, e⟩ := h
  clear hlen
  refine ⟨r, hr, ?_⟩
  have e2 : ((upto row.length).map fun i => if (L[i.toNat]?.join).isSome then (row[i.toNat]?).map rc else none).filterMap id = (pickF row L).map rc := by
    clear e hZ hr hl
    unfold pickF upto
    rw [List.map_map, List.filterMap_map, List.map_map]
    induction row generalizing L with
    | nil => rfl
    | cons x row ih =>
      match L, hL with
      | o :: L, hL =>
        have := ih (L := L) (by simpa using hL)
        rw [List.length_cons, List.range_succ_eq_map, List.zip_cons_cons]
        cases o with
        | none =>
          rw [List.filterMap_cons_none (by rfl), List.filter_cons_of_neg (by simp), ← this, List.filterMap_map]
          rfl
        | some o =>
          rw [List.filterMap_cons_some (b := rc x) (by rfl), List.filter_cons_of_pos (by simp), List.map_cons, ← this, List.filterMap_map]
          rfl
  rw [e2] at e
  exact e
theorem row_rng6 {v0 v2 : Option RV} {row : List Rec} (hl : row.length ≤ 1000) : icl rng1 (acons (cal (f1 glen) (acons (getv 1) (KR.ret []))) (KR.ret [])) [v0, some (RW row), v2, none, none, none] = some (.ok (ints' (upto row.length)), [v0, some (RW row), v2, none, none, none]) := by
  have h := rng_len (ds := row.map rc) (by rw [List.length_map]; omega)
  have e : (row.map rc).length = row.length := List.length_map ..
  rw [e] at h
  exact icl_ok (ρ' := [v0, some (RW row), v2, none, none, none]) (as := [.int row.length]) (by simp) h
abbrev ZP : M (List D) := icl rng1 (acons (cal (f1 glen) (acons (getv 1) (KR.ret []))) (KR.ret []))
abbrev B6 : S := (sif (tst (una gnotN (getv 5))) (sset 3 (val (KR.bin gadd (getv 4) (KR.ret (.int 1))))) skip)
theorem b6_eq (cc : Nat → Cl) : b6 cc = (seq (sset 2 (ocall (cc 2) 2 (cval (KR.bin gix (getv 0) (KR.ret (.int 1))) (cval (getv 1) (KR.ret [])))))
  (seq (sif (tst (KR.bin geq (KR.bin gix (getv 0) (KR.ret (.int 0))) (KR.ret (.str "among")))) (sret (ocall (cc 8) 2 (cval (KR.bin gix (getv 0) (KR.ret (.int 2))) (cval (frz (lcomp [4] ZP (gnm 4) (tst (una gnotN (KR.bin gix (getv 2) (getv 4)))) (KR.bin gix (getv 1) (getv 4)))) (KR.ret []))))) skip)
  (seq (sset 3 (val (KR.ret (.int 0))))
  (seq (sfor (gtp 2 (gsc (gnm 4) (gsc (gnm 5) gsn))) (icl enu (acons (getv 2) (KR.ret []))) B6)
  (sret (ocall (cc 8) 2 (cval (KR.bin gix (getv 0) (KR.ret (.int 2))) (cval (cut (getv 1) (par (getv 3)) (KR.ret none)) (KR.ret []))))))))) := rfl
theorem among_run {cc : Nat → Cl} {d e r res : D} {X Y : List D} {k : RV} (e1 : cc 2 [.val d, .val r] = some (.ok (.olst X), [.val d, .val r]))
    (ec : lcomp [4] ZP (gnm 4) (tst (una gnotN (KR.bin gix (getv 2) (getv 4)))) (KR.bin gix (getv 1) (getv 4)) [some (.val (.tup [.str "among", d, e])), some (.val r), some (.olst X), none, none, none] = some (.ok (.olst Y), [some (.val (.tup [.str "among", d, e])), some (.val r), some k, none, none, none]))
    (e2 : cc 8 [.val e, .val (.lst Y)] = some (.ok (.val res), [.val e, .val (.lst Y)])) :
    runD 2 6 (b6 cc) [.val (.tup [.str "among", d, e]), .val r] = some (.ok (.val res), [.val (.tup [.str "among", d, e]), .val r]) := by
  rw [b6_eq]
  generalize lcomp [4] ZP (gnm 4) (tst (una gnotN (KR.bin gix (getv 2) (getv 4)))) (KR.bin gix (getv 1) (getv 4)) = Z at ec ⊢
  have i2 : atI [.str "among", d, e] 2 = some e := rfl
  unfold runD
  simp [lockOf, backs, takeA, putA, e1, i2, ec, e2]
theorem since_for {t r k : RV} : ∀ (L : List (Option Num)) (i s : Nat) (u v : Option RV), ∃ u' v', forL (gtp 2 (gsc (gnm 4) (gsc (gnm 5) gsn))) B6 (enumD i (L.map opt)) [] [some t, some r, some k, some (KR.I s), u, v] = some (.ok .nx, [some t, some r, some k, some (KR.I (start L i s : Nat)), u', v'])
  | [], i, s, u, v => ⟨u, v, rfl⟩
  | none :: L, i, s, u, v => by
    obtain ⟨u', v', e⟩ := since_for (t := t) (r := r) (k := k) L (i + 1) s (some (KR.I i)) (some (.val .non))
    refine ⟨u', v', ?_⟩
    have n0 : gnotN .non = some (.bl false) := rfl
    rw [List.map_cons, enumD, start, ← e, forL_nx (ρ1 := [some t, some r, some k, some (KR.I s), some (KR.I i), some (.val .non)]) (ρ2 := [some t, some r, some k, some (KR.I s), some (KR.I i), some (.val .non)]) (by simp [opt]) (by simp [n0])]
  | some x :: L, i, s, u, v => by
    obtain ⟨u', v', e⟩ := since_for (t := t) (r := r) (k := k) L (i + 1) (i + 1) (some (KR.I i)) (some (W x))
    refine ⟨u', v', ?_⟩
    have n0 : gnotN (fr x) = some (.bl true) := rfl
    rw [List.map_cons, enumD, start, ← e, forL_nx (ρ1 := [some t, some r, some k, some (KR.I s), some (KR.I i), some (W x)]) (ρ2 := [some t, some r, some k, some (KR.I ((i + 1 : Nat) : Int)), some (KR.I i), some (W x)]) (by simp [opt]) (by simp [n0])]
theorem since_run {cc : Nat → Cl} {d e r r' res : D} {X : List D} {s : Int} {u' v' : Option RV} (e1 : cc 2 [.val d, .val r] = some (.ok (.olst X), [.val d, .val r]))
    (ef : forL (gtp 2 (gsc (gnm 4) (gsc (gnm 5) gsn))) B6 (enumD 0 X) [] [some (.val (.tup [.str "since", d, e])), some (.val r), some (.val (.lst X)), some (KR.I 0), none, none] = some (.ok .nx, [some (.val (.tup [.str "since", d, e])), some (.val r), some (.val (.lst X)), some (KR.I s), u', v']))
    (es : gsl (some s) none r = some r') (e2 : cc 8 [.val e, .val r'] = some (.ok (.val res), [.val e, .val r'])) :
    runD 2 6 (b6 cc) [.val (.tup [.str "since", d, e]), .val r] = some (.ok (.val res), [.val (.tup [.str "since", d, e]), .val r]) := by
  rw [b6_eq]
  generalize lcomp [4] ZP (gnm 4) (tst (una gnotN (KR.bin gix (getv 2) (getv 4)))) (KR.bin gix (getv 1) (getv 4)) = Z
  have i2 : atI [.str "since", d, e] 2 = some e := rfl
  unfold runD
  simp [lockOf, backs, takeA, putA, e1, i2, enu, seqD, ef, asI, es, e2]
theorem start_le : ∀ (L : List (Option Num)) (i s : Nat), s ≤ i → start L i s ≤ i + L.length
  | [], i, s, h => h
  | none :: L, i, s, h => by have := start_le L (i + 1) s (by omega); rw [start, List.length_cons]; omega
  | some _ :: L, i, s, h => by have := start_le L (i + 1) (i + 1) (Nat.le_refl _); rw [start, List.length_cons]; omega
theorem call6 {k : Nat} {rs : List RV} : call (k + 2) 6 rs = runD 2 6 (b6 (call (k + 1))) rs := by
  rw [show k + 2 = (k + 1) + 1 from rfl, call]
  simp only [bodies]
theorem q_two {w : Str} {a b : Q} : (Q.two w a b).toD = .tup [.str w, a.toD, b.toD] := by rw [Q.toD]
theorem picked_ok {k : Nat} {w : Str} {a b : Q} (h : MnOk (call k) a) (h' : MnOk (call (k + 1)) b) {row : List Rec} (hl : row.length ≤ 20) (hf : ∀ r ∈ row, Fr r.2) (h0 : row ≠ []) (hw : w = "since" ∨ w = "among") :
    call (k + 2) 6 [.val (Q.two w a b).toD, RW row] = some (.ok (.val (opt (mn (.two w a b) row))), [.val (Q.two w a b).toD, RW row]) := by
  have ea := answers_ok h hl hf
  rcases hw with rfl | rfl
  · have n1 : ¬ (("since" : Str) = "less" ∨ ("since" : Str) = "same") := by decide +kernel
    have n2 : ¬ ("since" : Str) = "among" := by decide +kernel
    have em : mn (.two "since" a b) row = mn b (row.drop (start (ans (mn a) row) 0 0)) := by
      rw [mn, if_neg h0, if_neg n1, if_neg n2]
    have hs := start_le (ans (mn a) row) 0 0 (Nat.le_refl _)
    rw [ans_len, Nat.zero_add] at hs
    obtain ⟨u', v', ef⟩ := since_for (t := .val (.tup [.str "since", a.toD, b.toD])) (r := RW row) (k := .val (.lst ((ans (mn a) row).map opt))) (ans (mn a) row) 0 0 none none
    have es := drop_sl (ds := row.map rc) (c := start (ans (mn a) row) 0 0) (by rw [List.length_map]; exact hs)
    rw [← List.map_drop] at es
    have e2 := h' (row.drop (start (ans (mn a) row) 0 0)) (by rw [List.length_drop]; omega) fun r hr => hf r (List.mem_of_mem_drop hr)
    rw [em, q_two, call6]
    have e2' : call (k + 1) 8 [.val b.toD, .val (.lst ((row.drop (start (ans (mn a) row) 0 0)).map rc))] = some (.ok (.val (opt (mn b (row.drop (start (ans (mn a) row) 0 0))))), [.val b.toD, .val (.lst ((row.drop (start (ans (mn a) row) 0 0)).map rc))]) := e2
    clear e2
    generalize mn b (row.drop (start (ans (mn a) row) 0 0)) = res at *
    generalize (row.drop (start (ans (mn a) row) 0 0)).map rc = Y at *
    generalize start (ans (mn a) row) 0 0 = s at *
    generalize (ans (mn a) row).map opt = X at *
    generalize a.toD = d at *
    generalize b.toD = e at *
    generalize call (k + 1) = cc at *
    exact since_run (s := (s : Nat)) ea ef es e2'
  · have n1 : ¬ (("among" : Str) = "less" ∨ ("among" : Str) = "same") := by decide +kernel
    have em : mn (.two "among" a b) row = mn b (pickF row (ans (mn a) row)) := by
      rw [mn, if_neg h0, if_neg n1, if_pos rfl]
      rfl
    obtain ⟨r, _, ec⟩ := pick_comp (t := .val (.tup [.str "among", a.toD, b.toD])) (row := row) (L := ans (mn a) row) (by rw [ans_len]) (by omega) (row_rng6 (by omega))
    have hp : (pickF row (ans (mn a) row)).length ≤ 20 := by
      unfold pickF
      rw [List.length_map]
      refine Nat.le_trans (List.length_filter_le _ _) ?_
      rw [List.length_zip]
      omega
    have e2 := h' (pickF row (ans (mn a) row)) hp fun r hr => by
      obtain ⟨p, hp, rfl⟩ := List.mem_map.mp hr
      exact hf p.1 (List.of_mem_zip (List.mem_filter.mp hp).1).1
    rw [em, q_two, call6]
    have e2' : call (k + 1) 8 [.val b.toD, .val (.lst ((pickF row (ans (mn a) row)).map rc))] = some (.ok (.val (opt (mn b (pickF row (ans (mn a) row))))), [.val b.toD, .val (.lst ((pickF row (ans (mn a) row)).map rc))]) := e2
    clear e2
    generalize mn b (pickF row (ans (mn a) row)) = res at *
    generalize (pickF row (ans (mn a) row)).map rc = Y at *
    generalize (ans (mn a) row).map opt = X at *
    generalize a.toD = d at *
    generalize b.toD = e at *
    generalize call (k + 1) = cc at *
    exact among_run ea ec e2'
end My.Mn

set_option Elab.async false
set_option linter.all false
set_option maxRecDepth 100000
namespace My.Mn
open PySem L2 KR
section
variable {cc : Nat → Cl} {Rl : List D} (hE : Rl.isEmpty = false)
theorem m_nil {w : Str} {ds : List D} : runD 2 3 (b8 cc) [.val (.tup (.str w :: ds)), .val (.lst [])] = some (.ok (.val .non), [.val (.tup (.str w :: ds)), .val (.lst [])]) := by
  unfold runD b8
  simp [lockOf, backs]
include hE
theorem m_now {x y : D} {z : D} (h : atI Rl (-1) = some (.tup [y, z])) : runD 2 3 (b8 cc) [.val (.tup [.str "now"]), .val (.lst Rl)] = some (.ok (.val z), [.val (.tup [.str "now"]), .val (.lst Rl)]) := by
  unfold runD b8
  simp [lockOf, backs, hE, h]
theorem m_nothing : runD 2 3 (b8 cc) [.val (.tup [.str "nothing"]), .val (.lst Rl)] = some (.ok (.val .non), [.val (.tup [.str "nothing"]), .val (.lst Rl)]) := by
  unfold runD b8
  simp [lockOf, backs, hE]
theorem m_is {x y : Str} {z : D} (h : atI Rl (-1) = some (.tup [.str y, z])) : runD 2 3 (b8 cc) [.val (.tup [.str "is", .str x]), .val (.lst Rl)] = some (.ok (.val (if y = x then z else .non)), [.val (.tup [.str "is", .str x]), .val (.lst Rl)]) := by
  unfold runD b8
  by_cases q : y = x
  · simp [lockOf, backs, hE, h, q]
  · simp [lockOf, backs, hE, h, q]
theorem m_cmp {w : Str} {a b r : D} (hw : w = "less" ∨ w = "same") (e : cc 3 [.val (.tup [.str w, a, b]), .val (.lst Rl)] = some (.ok (.val r), [.val (.tup [.str w, a, b]), .val (.lst Rl)])) : runD 2 3 (b8 cc) [.val (.tup [.str w, a, b]), .val (.lst Rl)] = some (.ok (.val r), [.val (.tup [.str w, a, b]), .val (.lst Rl)]) := by
  unfold runD b8
  rcases hw with rfl | rfl <;> simp [lockOf, backs, hE, gin_two, takeA, putA, e]
theorem m_pick {w : Str} {a b r : D} (hw : w = "since" ∨ w = "among") (e : cc 6 [.val (.tup [.str w, a, b]), .val (.lst Rl)] = some (.ok (.val r), [.val (.tup [.str w, a, b]), .val (.lst Rl)])) : runD 2 3 (b8 cc) [.val (.tup [.str w, a, b]), .val (.lst Rl)] = some (.ok (.val r), [.val (.tup [.str w, a, b]), .val (.lst Rl)]) := by
  unfold runD b8
  rcases hw with rfl | rfl <;> simp [lockOf, backs, hE, gin_two, takeA, putA, e]
theorem m_if {a b c : D} {o p q : Option Num} (e1 : cc 8 [.val a, .val (.lst Rl)] = some (.ok (.val (opt o)), [.val a, .val (.lst Rl)])) (e2 : cc 8 [.val b, .val (.lst Rl)] = some (.ok (.val (opt p)), [.val b, .val (.lst Rl)])) (e3 : cc 8 [.val c, .val (.lst Rl)] = some (.ok (.val (opt q)), [.val c, .val (.lst Rl)])) :
    runD 2 3 (b8 cc) [.val (.tup [.str "if", a, b, c]), .val (.lst Rl)] = some (.ok (.val (opt (if o.isNone then q else p))), [.val (.tup [.str "if", a, b, c]), .val (.lst Rl)]) := by
  have i2 : atI [.str "if", a, b, c] 2 = some b := rfl
  have i3 : atI [.str "if", a, b, c] 3 = some c := rfl
  have nn := isN_opt o
  unfold runD b8
  cases hq : o.isNone with
  | true => rw [hq] at nn; simp [lockOf, backs, hE, gin_two, takeA, putA, e1, e2, e3, i2, i3, nn]
  | false => rw [hq] at nn; simp [lockOf, backs, hE, gin_two, takeA, putA, e1, e2, e3, i2, i3, nn]
theorem m_one {w : Str} {a r : D} (hw : w = "last" ∨ w = "first") (e : cc 7 [.val (.tup [.str w, a]), .val (.lst Rl)] = some (.ok (.val r), [.val (.tup [.str w, a]), .val (.lst Rl)])) : runD 2 3 (b8 cc) [.val (.tup [.str w, a]), .val (.lst Rl)] = some (.ok (.val r), [.val (.tup [.str w, a]), .val (.lst Rl)]) := by
  unfold runD b8
  rcases hw with rfl | rfl <;> simp [lockOf, backs, hE, gin_two, takeA, putA, e]
theorem m_before {a r : D} {R2 : List D} (hs : gsl none (some (-1)) (.lst Rl) = some (.lst R2)) (e : cc 8 [.val a, .val (.lst R2)] = some (.ok (.val r), [.val a, .val (.lst R2)])) : runD 2 3 (b8 cc) [.val (.tup [.str "before", a]), .val (.lst Rl)] = some (.ok (.val r), [.val (.tup [.str "before", a]), .val (.lst Rl)]) := by
  unfold runD b8
  simp [lockOf, backs, hE, gin_two, takeA, putA, asI, hs, e]
theorem m_ord {w : Str} {a b r : D} (hw : w = "great" ∨ w = "least") (e : cc 4 [.val (.tup [.str w, a, b]), .val (.lst Rl)] = some (.ok (.val r), [.val (.tup [.str w, a, b]), .val (.lst Rl)])) : runD 2 3 (b8 cc) [.val (.tup [.str w, a, b]), .val (.lst Rl)] = some (.ok (.val r), [.val (.tup [.str w, a, b]), .val (.lst Rl)]) := by
  unfold runD b8
  rcases hw with rfl | rfl <;> simp [lockOf, backs, hE, gin_two, takeA, putA, e]
theorem m_cnt {w : Str} {ds : List D} {r : D} (hw : w = "times" ∨ w = "circle") (e : cc 5 [.val (.tup (.str w :: ds)), .val (.lst Rl)] = some (.ok (.val r), [.val (.tup (.str w :: ds)), .val (.lst Rl)])) : runD 2 3 (b8 cc) [.val (.tup (.str w :: ds)), .val (.lst Rl)] = some (.ok (.val r), [.val (.tup (.str w :: ds)), .val (.lst Rl)]) := by
  unfold runD b8
  rcases hw with rfl | rfl <;> simp [lockOf, backs, hE, gin_two, takeA, putA, e]
end
theorem call8 {k : Nat} {rs : List RV} : call (k + 1) 8 rs = runD 2 3 (b8 (call k)) rs := by
  rw [call]
  simp only [bodies]
theorem q_head : ∀ q : Q, ∃ w ds, q.toD = .tup (.str w :: ds)
  | .now => ⟨_, _, rfl⟩
  | .nothing => ⟨_, _, rfl⟩
  | .is _ => ⟨_, _, rfl⟩
  | .one _ _ => ⟨_, _, by rw [Q.toD]⟩
  | .two _ _ _ => ⟨_, _, by rw [Q.toD]⟩
  | .iff _ _ _ => ⟨_, _, by rw [Q.toD]⟩
  | .num _ _ _ => ⟨_, _, by rw [Q.toD]⟩
  | .circ _ _ _ => ⟨_, _, by rw [Q.toD]⟩
theorem mn_nil : ∀ q : Q, mn q [] = none
  | .now => rfl
  | .nothing => rfl
  | .is _ => rfl
  | .one _ _ => by rw [mn, if_pos rfl]
  | .two _ _ _ => by rw [mn, if_pos rfl]
  | .iff _ _ _ => by rw [mn, if_pos rfl]
  | .num _ _ _ => by rw [mn, if_pos rfl]
  | .circ _ _ _ => by rw [mn, if_pos rfl]
theorem init_sl {ds : List D} (h : ds ≠ []) : gsl none (some (-1)) (.lst ds) = some (.lst ds.dropLast) := by
  have hl : 0 < ds.length := List.length_pos_iff.mpr h
  show some (D.lst (cutD ds none (some (-1)))) = _
  unfold cutD
  have e2 : HT.sIx ds.length ds.length (some (-1)) = ds.length - 1 := by
    unfold HT.sIx
    first
      | rfl
      | (simp; omega)
      | (split <;> simp <;> omega)
  rw [e2, HT.sIx_none, Nat.sub_zero, List.drop_zero, List.dropLast_eq_take]
theorem meaning_nil {k : Nat} {q : Q} : call (k + 1) 8 [.val q.toD, RW []] = some (.ok (.val (opt (mn q []))), [.val q.toD, RW []]) := by
  obtain ⟨w, ds, e⟩ := q_head q
  rw [mn_nil, e, call8]
  exact m_nil
theorem meaning_ok : ∀ (m : Nat) (q : Q), q.ok m → ∀ k, MnOk (call (3 * m + 1 + k)) q
  | 0, _, h, _ => h.elim
  | m + 1, q, hq, k => by
    intro row hl hf
    rw [show 3 * (m + 1) + 1 + k = (3 * m + 1 + k + 2) + 1 by omega]
    by_cases h0 : row = []
    · subst h0
      exact meaning_nil
    have hE : (row.map rc).isEmpty = false := by
      cases row with
      | nil => exact absurd rfl h0
      | cons x row => rfl
    obtain ⟨r, r1, r2⟩ := row_last h0
    have ih := fun (q : Q) (h : q.ok m) (j : Nat) => meaning_ok m q h j
    have ih2 : ∀ q : Q, q.ok m → MnOk (call (3 * m + 1 + k + 2)) q := fun q h => by
      have := ih q h (k + 2)
      rwa [show 3 * m + 1 + (k + 2) = 3 * m + 1 + k + 2 by omega] at this
    have ih1 : ∀ q : Q, q.ok m → MnOk (call (3 * m + 1 + k + 1)) q := fun q h => by
      have := ih q h (k + 1)
      rwa [show 3 * m + 1 + (k + 1) = 3 * m + 1 + k + 1 by omega] at this
    rw [call8]
    cases q with
    | now =>
      have e : mn .now row = some r.2 := by rw [mn, r1]; rfl
      rw [e]
      exact m_now (x := .non) hE r2
    | nothing => exact m_nothing hE
    | is x =>
      have e : opt (mn (.is x) row) = if r.1 = x then fr r.2 else .non := by
        rw [mn, r1]
        show opt (if r.1 = x then some r.2 else none) = _
        split <;> rfl
      rw [e]
      exact m_is hE r2
    | one w a =>
      obtain ⟨hw, ha⟩ := hq
      by_cases q : w = "before"
      · subst q
        have e : mn (.one "before" a) row = mn a row.dropLast := by rw [mn, if_neg h0, if_pos rfl]
        have s := init_sl (ds := row.map rc) (by simpa using h0)
        rw [← List.map_dropLast] at s
        have e2 := ih2 a ha row.dropLast (by rw [List.length_dropLast]; omega) fun r hr => hf r ((List.dropLast_sublist _).subset hr)
        rw [e, q_one]
        exact m_before hE s e2
      · have hw' : w = "last" ∨ w = "first" := by
          rcases hw with h | h | h
          · exact .inl h
          · exact .inr h
          · exact absurd h q
        have e := reached_ok (ih a ha k) hl hf h0 hw'
        rw [q_one] at e ⊢
        exact m_one hE hw' e
    | two w a b =>
      obtain ⟨hw, ha, hb⟩ := hq
      by_cases q : w = "less" ∨ w = "same"
      · have e1 := ih1 a ha row hl hf
        have e2 := ih1 b hb row hl hf
        have e := compared_run (w := w) e1 e2 fun u v hu hv => less_eq (n := 3 * m + 1 + k) (mn_fr a row hf u hu).sm.a (mn_fr a row hf u hu).sm.b (mn_fr b row hf v hv).sm.a (mn_fr b row hf v hv).sm.b
        have em : mn (.two w a b) row = cmpF w (mn a row) (mn b row) := by rw [mn, if_neg h0, if_pos q]; rfl
        have ec : call (3 * m + 1 + k + 2) 3 [.val (.tup [.str w, a.toD, b.toD]), RW row] = some (.ok (.val (opt (cmpF w (mn a row) (mn b row)))), [.val (.tup [.str w, a.toD, b.toD]), RW row]) := by
          rw [show 3 * m + 1 + k + 2 = (3 * m + 1 + k + 1) + 1 from rfl, call]
          simp only [bodies]
          exact e
        rw [em, q_two]
        exact m_cmp hE q ec
      · have hw' : w = "since" ∨ w = "among" := by
          rcases hw with h | h | h | h
          · exact absurd (.inl h) q
          · exact absurd (.inr h) q
          · exact .inl h
          · exact .inr h
        have e := picked_ok (ih a ha k) (ih1 b hb) hl hf h0 hw'
        rw [q_two] at e ⊢
        exact m_pick hE hw' e
    | iff a b c =>
      obtain ⟨ha, hb, hc⟩ := hq
      have e : mn (.iff a b c) row = if (mn a row).isNone then mn c row else mn b row := by
        rw [mn, if_neg h0]
        cases mn a row <;> rfl
      rw [e, Q.toD]
      exact m_if hE (ih2 a ha row hl hf) (ih2 b hb row hl hf) (ih2 c hc row hl hf)
    | num w j a =>
      obtain ⟨hw, ha⟩ := hq
      by_cases q : w = "times"
      · have e := times_ok (j := j) (ih a ha k) hl hf h0 q
        rw [q_num] at e ⊢
        exact m_cnt hE (.inl q) e
      · have hw' : (w = "great" ∨ w = "least") ∧ 1 ≤ j := by
          rcases hw with h | h
          · exact ⟨h.1, h.2.1⟩
          · exact absurd h.1 q
        have e := ordered_ok (ih a ha k) (by omega) hl hf h0 hw'.2 hw'.1
        rw [q_num] at e ⊢
        exact m_ord hE hw'.1 e
    | circ i j a =>
      obtain ⟨hi, hj, ha⟩ := hq
      have e := circle_ok (i := i) (j := j) (ih a ha k) hl hf h0 (by omega)
      rw [q_circ] at e ⊢
      exact m_cnt hE (.inr rfl) e
end My.Mn

set_option Elab.async false
set_option linter.all false
set_option maxRecDepth 100000
namespace My
open PySem L2 KR Mn
theorem last_in {P : Num → Prop} {row : List Rec} (hf : ∀ r ∈ row, P r.2) {x : Num} (h : row.getLast?.map (·.2) = some x) : P x := by
  cases e : row.getLast? with
  | none => rw [e] at h; cases h
  | some r =>
    rw [e] at h
    have := hf r (List.mem_of_getLast? e)
    rwa [← (Option.some.inj h : r.2 = x)]
theorem mn_in {P : Num → Prop} : ∀ (q : Q) (row : List Rec), (∀ r ∈ row, P r.2) → ∀ x, mn q row = some x → P x
  | .now, row, hf, x, h => last_in hf h
  | .nothing, row, hf, x, h => by cases h
  | .is y, row, hf, x, h => by
    unfold mn at h
    refine last_in hf (x := x) ?_
    cases e : row.getLast? with
    | none => rw [e] at h; cases h
    | some r =>
      rw [e] at h
      show some r.2 = some x
      have h' : (if r.1 = y then some r.2 else none) = some x := h
      split at h'
      · exact h'
      · cases h'
  | .one w a, row, hf, x, h => by
    unfold mn at h
    have sub : ∀ o ∈ (ans (mn a) row).filterMap id, P o := fun o ho => by
      obtain ⟨o', h1, h2⟩ := List.mem_filterMap.mp ho
      obtain ⟨c, _, h3⟩ := ans_mem h1
      exact mn_in a (row.take (c + 1)) (fun r hr => hf r (List.mem_of_mem_take hr)) o (by rw [h3]; exact h2)
    split at h
    · cases h
    · split at h
      · exact mn_in a row.dropLast (fun r hr => hf r ((List.dropLast_sublist _).subset hr)) x h
      · split at h
        · exact sub x (List.mem_of_getLast? h)
        · exact sub x (List.mem_of_mem_head? h)
  | .two w a b, row, hf, x, h => by
    unfold mn at h
    split at h
    · cases h
    · split at h
      · cases e : mn a row with
        | none => rw [e] at h; cases h
        | some u =>
          have hu := mn_in a row hf u e
          rw [e] at h
          cases e2 : mn b row with
          | none => rw [e2] at h; cases h
          | some v =>
            rw [e2] at h
            dsimp only at h
            have : some u = some x := by
              split at h <;> split at h <;> first | exact h | cases h
            rwa [← Option.some.inj this]
      · split at h
        · refine mn_in b _ (fun r hr => ?_) x h
          obtain ⟨p, hp, rfl⟩ := List.mem_map.mp hr
          exact hf p.1 (List.of_mem_zip (List.mem_filter.mp hp).1).1
        · exact mn_in b _ (fun r hr => hf r (List.mem_of_mem_drop hr)) x h
  | .iff a b c, row, hf, x, h => by
    unfold mn at h
    split at h
    · cases h
    · split at h
      · exact mn_in c row hf x h
      · exact mn_in b row hf x h
  | .num w j a, row, hf, x, h => by
    unfold mn at h
    have sub : ∀ o ∈ amongst (ans (mn a) row) [], P o := fun o ho => by
      rcases amongst_sub _ _ _ ho with q | q
      · cases q
      · obtain ⟨c, _, h3⟩ := ans_mem q
        exact mn_in a (row.take (c + 1)) (fun r hr => hf r (List.mem_of_mem_take hr)) o h3
    split at h
    · cases h
    · split at h
      · split at h
        · exact last_in hf h
        · cases h
      · split at h
        · cases h
        · split at h
          · exact sub x (List.mem_of_getElem? h)
          · exact sub x (List.mem_of_getElem? h)
  | .circ i j a, row, hf, x, h => by
    unfold mn at h
    split at h
    · cases h
    · split at h
      · exact last_in hf h
      · cases h

/-- a map that keeps the order of some numbers -/
structure Iso (A : List Num) (f : Num → Num) : Prop where
  lt : ∀ x ∈ A, ∀ y ∈ A, (lt (f x) (f y) ↔ lt x y)
  inj : ∀ x ∈ A, ∀ y ∈ A, f x = f y → x = y
section
variable {A : List Num} {f : Num → Num}
theorem ins_map (I : Iso A f) {x : Num} {l : List Num} (hx : x ∈ A) (hl : ∀ y ∈ l, y ∈ A) : ins (f x) (l.map f) = (ins x l).map f := by
  unfold ins
  have m : f x ∈ l.map f ↔ x ∈ l := ⟨fun h => by
    obtain ⟨y, hy, e⟩ := List.mem_map.mp h
    rw [← I.inj y (hl y hy) x hx e]
    exact hy, fun h => List.mem_map.mpr ⟨x, h, rfl⟩⟩
  by_cases q : x ∈ l
  · rw [if_pos q, if_pos (m.mpr q)]
  · rw [if_neg q, if_neg (fun h => q (m.mp h)), List.map_append, List.map_cons, List.filter_map, List.filter_map]
    have e1 : l.filter ((fun y => decide (lt y (f x))) ∘ f) = l.filter fun y => decide (lt y x) := List.filter_congr fun y hy => decide_eq_decide.mpr (I.lt y (hl y hy) x hx)
    have e2 : l.filter ((fun y => decide (lt (f x) y)) ∘ f) = l.filter fun y => decide (lt x y) := List.filter_congr fun y hy => decide_eq_decide.mpr (I.lt x hx y (hl y hy))
    rw [e1, e2]
theorem ins_in {x y : Num} {l : List Num} (h : y ∈ ins x l) : y = x ∨ y ∈ l := by
  unfold ins at h
  split at h
  · exact .inr h
  · rcases List.mem_append.mp h with h | h
    · exact .inr (List.mem_filter.mp h).1
    · rcases List.mem_cons.mp h with h | h
      · exact .inl h
      · exact .inr (List.mem_filter.mp h).1
theorem amongst_map (I : Iso A f) : ∀ (L : List (Option Num)) (B : List Num), (∀ x, some x ∈ L → x ∈ A) → (∀ y ∈ B, y ∈ A) → amongst (L.map (Option.map f)) (B.map f) = (amongst L B).map f
  | [], B, _, _ => rfl
  | none :: L, B, h, hb => amongst_map I L B (fun x hx => h x (List.mem_cons_of_mem _ hx)) hb
  | some x :: L, B, h, hb => by
    show amongst (L.map (Option.map f)) (ins (f x) (B.map f)) = _
    rw [ins_map I (h x List.mem_cons_self) hb]
    refine amongst_map I L (ins x B) (fun x hx => h x (List.mem_cons_of_mem _ hx)) fun y hy => ?_
    rcases ins_in hy with e | e
    · rw [e]; exact h x List.mem_cons_self
    · exact hb y e
def fR (f : Num → Num) (r : Rec) : Rec := (r.1, f r.2)
theorem ans_map {g : List Rec → Option Num} (ih : ∀ row, (∀ r ∈ row, r.2 ∈ A) → g (row.map (fR f)) = (g row).map f) {row : List Rec} (h : ∀ r ∈ row, r.2 ∈ A) : ans g (row.map (fR f)) = (ans g row).map (Option.map f) := by
  unfold ans
  rw [List.length_map, List.map_map]
  refine List.map_congr_left fun c hc => ?_
  show g ((row.map (fR f)).take (c + 1)) = (g (row.take (c + 1))).map f
  rw [← List.map_take]
  exact ih _ fun r hr => h r (List.mem_of_mem_take hr)
theorem fm_map : ∀ L : List (Option Num), (L.map (Option.map f)).filterMap id = (L.filterMap id).map f
  | [] => rfl
  | none :: L => fm_map L
  | some x :: L => by
    show f x :: (L.map (Option.map f)).filterMap id = f x :: (L.filterMap id).map f
    rw [fm_map L]
theorem start_map : ∀ (L : List (Option Num)) (i s : Nat), start (L.map (Option.map f)) i s = start L i s
  | [], _, _ => rfl
  | none :: L, i, s => start_map L (i + 1) s
  | some x :: L, i, s => start_map L (i + 1) (i + 1)
theorem ans_in {q : Q} {row : List Rec} (h : ∀ r ∈ row, r.2 ∈ A) : ∀ x, some x ∈ ans (mn q) row → x ∈ A := fun x hx => by
  obtain ⟨c, _, h3⟩ := ans_mem hx
  exact mn_in (P := (· ∈ A)) q (row.take (c + 1)) (fun r hr => h r (List.mem_of_mem_take hr)) x h3
theorem last_map {row : List Rec} : (row.map (fR f)).getLast?.map (·.2) = (row.getLast?.map (·.2)).map f := by
  rw [List.getLast?_map]
  cases row.getLast? <;> rfl
theorem zip_filter : ∀ (row : List Rec) (L : List (Option Num)), (((row.map (fR f)).zip (L.map (Option.map f))).filter fun p => p.2.isSome).map (·.1) = (((row.zip L).filter fun p => p.2.isSome).map (·.1)).map (fR f)
  | [], _ => rfl
  | _ :: _, [] => rfl
  | r :: row, none :: L => zip_filter row L
  | r :: row, some x :: L => by
    show fR f r :: _ = fR f r :: _
    exact congrArg _ (zip_filter row L)
theorem mn_map (I : Iso A f) : ∀ (q : Q) (row : List Rec), (∀ r ∈ row, r.2 ∈ A) → mn q (row.map (fR f)) = (mn q row).map f
  | .now, row, h => last_map
  | .nothing, row, h => rfl
  | .is x, row, h => by
    show ((row.map (fR f)).getLast?.bind fun r => if r.1 = x then some r.2 else none) = (row.getLast?.bind fun r => if r.1 = x then some r.2 else none).map f
    rw [List.getLast?_map]
    cases row.getLast? with
    | none => rfl
    | some r =>
      show (if r.1 = x then some (f r.2) else none) = Option.map f (if r.1 = x then some r.2 else none)
      split <;> rfl
  | .one w a, row, h => by
    have ea := ans_map (mn_map I a) h
    simp only [mn]
    by_cases e0 : row = []
    · rw [if_pos e0, if_pos (by rw [e0]; rfl)]; rfl
    rw [if_neg e0, if_neg (fun z => e0 (List.map_eq_nil_iff.mp z)), ea, fm_map]
    split
    · rw [← List.map_dropLast]
      exact mn_map I a _ fun r hr => h r ((List.dropLast_sublist _).subset hr)
    · split
      · rw [List.getLast?_map]
      · rw [List.head?_map]
  | .two w a b, row, h => by
    have ea := ans_map (mn_map I a) h
    simp only [mn]
    by_cases e0 : row = []
    · rw [if_pos e0, if_pos (by rw [e0]; rfl)]; rfl
    rw [if_neg e0, if_neg (fun z => e0 (List.map_eq_nil_iff.mp z)), ea, zip_filter, start_map]
    split
    · rw [mn_map I a row h, mn_map I b row h]
      have ha := mn_in (P := (· ∈ A)) a row h
      have hb := mn_in (P := (· ∈ A)) b row h
      generalize mn a row = o at ha ⊢
      generalize mn b row = p at hb ⊢
      cases o with
      | none => rfl
      | some u =>
        cases p with
        | none => rfl
        | some v =>
          have l := I.lt u (ha u rfl) v (hb v rfl)
          have i : f u = f v ↔ u = v := ⟨I.inj u (ha u rfl) v (hb v rfl), fun e => by rw [e]⟩
          show (if w = "less" then (if lt (f u) (f v) then some (f u) else none) else (if f u = f v then some (f u) else none)) = Option.map f (if w = "less" then (if lt u v then some u else none) else (if u = v then some u else none))
          by_cases q1 : w = "less"
          · rw [if_pos q1, if_pos q1]
            by_cases q2 : lt u v
            · rw [if_pos q2, if_pos (l.mpr q2)]; rfl
            · rw [if_neg q2, if_neg (fun z => q2 (l.mp z))]; rfl
          · rw [if_neg q1, if_neg q1]
            by_cases q2 : u = v
            · rw [if_pos q2, if_pos (i.mpr q2)]; rfl
            · rw [if_neg q2, if_neg (fun z => q2 (i.mp z))]; rfl
    · split
      · refine mn_map I b _ fun r hr => ?_
        obtain ⟨p, hp, rfl⟩ := List.mem_map.mp hr
        exact h p.1 (List.of_mem_zip (List.mem_filter.mp hp).1).1
      · rw [← List.map_drop]
        exact mn_map I b _ fun r hr => h r (List.mem_of_mem_drop hr)
  | .iff a b c, row, h => by
    simp only [mn]
    by_cases e0 : row = []
    · rw [if_pos e0, if_pos (by rw [e0]; rfl)]; rfl
    rw [if_neg e0, if_neg (fun z => e0 (List.map_eq_nil_iff.mp z)), mn_map I a row h, mn_map I b row h, mn_map I c row h]
    cases mn a row <;> rfl
  | .num w j a, row, h => by
    have ea := ans_map (mn_map I a) h
    have em : amongst ((ans (mn a) row).map (Option.map f)) [] = (amongst (ans (mn a) row) []).map f := amongst_map I (ans (mn a) row) [] (ans_in h) fun y hy => nomatch hy
    simp only [mn]
    by_cases e0 : row = []
    · rw [if_pos e0, if_pos (by rw [e0]; rfl)]; rfl
    rw [if_neg e0, if_neg (fun z => e0 (List.map_eq_nil_iff.mp z)), ea, em, fm_map, List.length_map, List.length_map, last_map, List.getElem?_map, List.getElem?_map]
    split
    · split <;> rfl
    · split
      · rfl
      · split <;> rfl
  | .circ i j a, row, h => by
    have ea := ans_map (mn_map I a) h
    simp only [mn]
    by_cases e0 : row = []
    · rw [if_pos e0, if_pos (by rw [e0]; rfl)]; rfl
    rw [if_neg e0, if_neg (fun z => e0 (List.map_eq_nil_iff.mp z)), ea, fm_map, List.length_map, last_map]
    split <;> rfl
end
end My

set_option Elab.async false
set_option linter.all false
set_option maxRecDepth 100000
namespace My
open PySem L2 KR
/-! ### cells under an order's map -/
def mapC (f : Num → Num) (c : Cell) : Cell := (c.1.map f, c.2.1, c.2.2.map f)
def mapT (f : Num → Num) : CT → CT
  | .n0 c => .n0 (mapC f c)
  | .n1 c a => .n1 (mapC f c) (mapT f a)
  | .n2 c a b => .n2 (mapC f c) (mapT f a) (mapT f b)
  | .n3 c a b d => .n3 (mapC f c) (mapT f a) (mapT f b) (mapT f d)
structure InC (A : List Num) (c : Cell) : Prop where
  a : ∀ x, c.1 = some x → x ∈ A
  h : ∀ y ∈ c.2.2, y ∈ A
def InT (A : List Num) : CT → Prop
  | .n0 c => InC A c
  | .n1 c a => InC A c ∧ InT A a
  | .n2 c a b => InC A c ∧ InT A a ∧ InT A b
  | .n3 c a b d => InC A c ∧ InT A a ∧ InT A b ∧ InT A d
section
variable {A : List Num} {f : Num → Num}
theorem mapT_hd (t : CT) : (mapT f t).hd = mapC f t.hd := by cases t <;> rfl
theorem mapT_flat (t : CT) : (mapT f t).flat = t.flat.map (mapC f) := by
  induction t with
  | n0 c => rfl
  | n1 c a ia => simp [mapT, CT.flat, ia]
  | n2 c a b ia ib => simp [mapT, CT.flat, ia, ib]
  | n3 c a b d ia ib id => simp [mapT, CT.flat, ia, ib, id]
theorem InT.hd {t : CT} (h : InT A t) : InC A t.hd := by
  cases t with
  | n0 c => exact h
  | n1 c a => exact h.1
  | n2 c a b => exact h.1
  | n3 c a b d => exact h.1
theorem InT.flat {t : CT} (h : InT A t) : ∀ c ∈ t.flat, InC A c := by
  induction t with
  | n0 c => intro x hx; rw [List.mem_singleton.mp hx]; exact h
  | n1 c a ia =>
    intro x hx
    rcases List.mem_cons.mp hx with e | hx
    · rw [e]; exact h.1
    · exact ia h.2 x hx
  | n2 c a b ia ib =>
    intro x hx
    rcases List.mem_cons.mp hx with e | hx
    · rw [e]; exact h.1
    · rcases List.mem_append.mp hx with hx | hx
      · exact ia h.2.1 x hx
      · exact ib h.2.2 x hx
  | n3 c a b d ia ib id =>
    intro x hx
    rcases List.mem_cons.mp hx with e | hx
    · rw [e]; exact h.1
    · rcases List.mem_append.mp hx with hx | hx
      · exact ia h.2.1 x hx
      · rcases List.mem_append.mp hx with hx | hx
        · exact ib h.2.2.1 x hx
        · exact id h.2.2.2 x hx
theorem in_e0 : InC A E0 := ⟨fun x h => (by cases h), fun y h => (by cases h)⟩
theorem first_in : ∀ q : Q, InT A (firstT q) ∧ mapT f (firstT q) = firstT q
  | .now => ⟨in_e0, rfl⟩
  | .nothing => ⟨in_e0, rfl⟩
  | .is _ => ⟨in_e0, rfl⟩
  | .one _ a => ⟨⟨in_e0, (first_in a).1⟩, by show CT.n1 _ (mapT f (firstT a)) = _; rw [(first_in a).2]; rfl⟩
  | .two _ a b => ⟨⟨in_e0, (first_in a).1, (first_in b).1⟩, by show CT.n2 _ (mapT f (firstT a)) (mapT f (firstT b)) = _; rw [(first_in a).2, (first_in b).2]; rfl⟩
  | .iff a b c => ⟨⟨in_e0, (first_in a).1, (first_in b).1, (first_in c).1⟩, by show CT.n3 _ (mapT f (firstT a)) (mapT f (firstT b)) (mapT f (firstT c)) = _; rw [(first_in a).2, (first_in b).2, (first_in c).2]; rfl⟩
  | .num _ _ a => ⟨⟨in_e0, (first_in a).1⟩, by show CT.n1 _ (mapT f (firstT a)) = _; rw [(first_in a).2]; rfl⟩
  | .circ i _ a => ⟨⟨in_e0, (first_in a).1⟩, by show CT.n1 _ (mapT f (firstT a)) = _; rw [(first_in a).2]; rfl⟩
theorem isN_map {o : Option Num} : (o.map f).isNone = o.isNone := by cases o <;> rfl
theorem isS_map {o : Option Num} : (o.map f).isSome = o.isSome := by cases o <;> rfl
theorem ite_map {p : Prop} [Decidable p] {a b : Option Num} : (if p then a.map f else b.map f) = (if p then a else b).map f := by split <;> rfl
theorem itx_map {p : Prop} [Decidable p] {x : Num} : (if p then some (f x) else none) = (if p then some x else none).map f := by split <;> rfl
theorem cmp_map (I : Iso A f) {w : Str} {o p : Option Num} (ho : ∀ x, o = some x → x ∈ A) (hp : ∀ x, p = some x → x ∈ A) : cmpF w (o.map f) (p.map f) = (cmpF w o p).map f := by
  cases o with
  | none => rfl
  | some u =>
    cases p with
    | none => rfl
    | some v =>
      have l := I.lt u (ho u rfl) v (hp v rfl)
      have i : f u = f v ↔ u = v := ⟨I.inj u (ho u rfl) v (hp v rfl), fun e => by rw [e]⟩
      show (if w = "less" then (if lt (f u) (f v) then some (f u) else none) else (if f u = f v then some (f u) else none)) = Option.map f (if w = "less" then (if lt u v then some u else none) else (if u = v then some u else none))
      by_cases q1 : w = "less"
      · rw [if_pos q1, if_pos q1]
        by_cases q2 : lt u v
        · rw [if_pos q2, if_pos (l.mpr q2)]; rfl
        · rw [if_neg q2, if_neg (fun z => q2 (l.mp z))]; rfl
      · rw [if_neg q1, if_neg q1]
        by_cases q2 : u = v
        · rw [if_pos q2, if_pos (i.mpr q2)]; rfl
        · rw [if_neg q2, if_neg (fun z => q2 (i.mp z))]; rfl
theorem cmp_in {w : Str} {o p : Option Num} (ho : ∀ x, o = some x → x ∈ A) : ∀ x, cmpF w o p = some x → x ∈ A := by
  intro x h
  cases o with
  | none => cases h
  | some u =>
    cases p with
    | none => cases h
    | some v =>
      have e : (if w = "less" then (if lt u v then some u else none) else (if u = v then some u else none)) = some x := h
      have : some u = some x := by split at e <;> split at e <;> first | exact e | cases e
      exact ho x this
theorem insO_map (I : Iso A f) {o : Option Num} {l : List Num} (ho : ∀ x, o = some x → x ∈ A) (hl : ∀ y ∈ l, y ∈ A) : insO (o.map f) (l.map f) = (insO o l).map f ∧ ∀ y ∈ insO o l, y ∈ A := by
  cases o with
  | none => exact ⟨rfl, hl⟩
  | some x =>
    refine ⟨ins_map I (ho x rfl) hl, fun y hy => ?_⟩
    rcases ins_in hy with e | e
    · rw [e]; exact ho x rfl
    · exact hl y e
theorem trim_map {w : Str} {j : Nat} {l : List Num} : trim w j (l.map f) = (trim w j l).map f := by
  unfold trim
  rw [List.length_map]
  split
  · rw [List.map_drop]
  · rw [List.map_take]
theorem told_map {w : Str} {j : Nat} {l : List Num} : toldF w j (l.map f) = (toldF w j l).map f := by
  unfold toldF
  rw [List.length_map]
  split
  · split
    · rw [List.head?_map]
    · rw [List.getLast?_map]
  · rfl
theorem told_in {w : Str} {j : Nat} {l : List Num} (h : ∀ y ∈ l, y ∈ A) : ∀ x, toldF w j l = some x → x ∈ A := by
  intro x e
  unfold toldF at e
  split at e
  · split at e
    · exact h x (List.mem_of_mem_head? e)
    · exact h x (List.mem_of_getLast? e)
  · cases e
def inO (A : List Num) (o : Option Num) : Prop := ∀ x, o = some x → x ∈ A
theorem inO_ite {p : Prop} [Decidable p] {a b : Option Num} (ha : inO A a) (hb : inO A b) : inO A (if p then a else b) := by split <;> assumption
theorem inO_itx {p : Prop} [Decidable p] {x : Num} (hx : x ∈ A) : inO A (if p then some x else none) := by
  split
  · intro y e; cases e; exact hx
  · intro y e; cases e
/-- hearing keeps the map -/
theorem hear_map (I : Iso A f) {nm : Str} {x : Num} (hx : x ∈ A) : ∀ (m : Nat) (q : Q), q.ok m → ∀ t, Fits q t → InT A t → InT A (hearT nm x q t) ∧ hearT nm (f x) q (mapT f t) = mapT f (hearT nm x q t)
  | 0, _, h, _, _, _ => h.elim
  | _ + 1, .now, _, .n0 c, h, k => ⟨⟨fun y e => (by cases e; exact hx), k.h⟩, rfl⟩
  | _ + 1, .nothing, _, .n0 c, h, k => ⟨⟨fun y e => (by cases e), k.h⟩, rfl⟩
  | _ + 1, .is z, _, .n0 c, h, k => ⟨⟨inO_itx (p := nm = z) hx, k.h⟩, by
      show CT.n0 (if nm = z then some (f x) else none, _) = CT.n0 ((if nm = z then some x else none).map f, _)
      rw [itx_map]; rfl⟩
  | m + 1, .one w a, ok, .n1 c t, ⟨h1, h2⟩, ⟨k1, k2⟩ => by
    obtain ⟨i, e⟩ := hear_map I (nm := nm) hx m a ok.2 t h2 k2
    refine ⟨⟨⟨?_, k1.h⟩, i⟩, ?_⟩
    · show inO A (if w = "last" then (if (hearT nm x a t).hd.1.isNone then c.1 else (hearT nm x a t).hd.1) else if w = "first" then (if c.1.isNone then (hearT nm x a t).hd.1 else c.1) else t.hd.1)
      exact inO_ite (inO_ite k1.a i.hd.a) (inO_ite (inO_ite i.hd.a k1.a) k2.hd.a)
    · show CT.n1 ((if w = "last" then (if (hearT nm (f x) a (mapT f t)).hd.1.isNone then c.1.map f else (hearT nm (f x) a (mapT f t)).hd.1) else if w = "first" then (if (c.1.map f).isNone then (hearT nm (f x) a (mapT f t)).hd.1 else c.1.map f) else (mapT f t).hd.1), _) (hearT nm (f x) a (mapT f t)) =
        CT.n1 (Option.map f (if w = "last" then (if (hearT nm x a t).hd.1.isNone then c.1 else (hearT nm x a t).hd.1) else if w = "first" then (if c.1.isNone then (hearT nm x a t).hd.1 else c.1) else t.hd.1), _) (mapT f (hearT nm x a t))
      rw [e, mapT_hd, mapT_hd]
      show CT.n1 ((if w = "last" then (if ((hearT nm x a t).hd.1.map f).isNone then c.1.map f else (hearT nm x a t).hd.1.map f) else if w = "first" then (if (c.1.map f).isNone then (hearT nm x a t).hd.1.map f else c.1.map f) else t.hd.1.map f), _) _ = _
      rw [isN_map, isN_map, ite_map, ite_map, ite_map, ite_map]
      rfl
  | m + 1, .two w a b, ok, .n2 c t u, ⟨h1, h2, h3⟩, ⟨k1, k2, k3⟩ => by
    obtain ⟨i, e⟩ := hear_map I (nm := nm) hx m a ok.2.1 t h2 k2
    obtain ⟨j, g⟩ := hear_map I (nm := nm) hx m b ok.2.2 u h3 k3
    have f0 := first_in (A := A) (f := f) b
    have j' : InT A (if w = "less" ∨ w = "same" then hearT nm x b u else if w = "since" then (if (hearT nm x a t).hd.1.isSome then firstT b else hearT nm x b u) else (if (hearT nm x a t).hd.1.isSome then hearT nm x b u else u)) := by
      split
      · exact j
      · split
        · split
          · exact f0.1
          · exact j
        · split
          · exact j
          · exact k3
    have g' : (if w = "less" ∨ w = "same" then hearT nm (f x) b (mapT f u) else if w = "since" then (if (hearT nm (f x) a (mapT f t)).hd.1.isSome then firstT b else hearT nm (f x) b (mapT f u)) else (if (hearT nm (f x) a (mapT f t)).hd.1.isSome then hearT nm (f x) b (mapT f u) else mapT f u)) =
        mapT f (if w = "less" ∨ w = "same" then hearT nm x b u else if w = "since" then (if (hearT nm x a t).hd.1.isSome then firstT b else hearT nm x b u) else (if (hearT nm x a t).hd.1.isSome then hearT nm x b u else u)) := by
      rw [e, g, mapT_hd]
      show (if w = "less" ∨ w = "same" then _ else if w = "since" then (if ((hearT nm x a t).hd.1.map f).isSome then _ else _) else (if ((hearT nm x a t).hd.1.map f).isSome then _ else _)) = _
      rw [isS_map]
      split
      · rfl
      · split
        · split
          · exact f0.2.symm
          · rfl
        · split <;> rfl
    show InT A (.n2 ((if w = "less" ∨ w = "same" then cmpF w (hearT nm x a t).hd.1 (CT.hd (if w = "less" ∨ w = "same" then hearT nm x b u else if w = "since" then (if (hearT nm x a t).hd.1.isSome then firstT b else hearT nm x b u) else (if (hearT nm x a t).hd.1.isSome then hearT nm x b u else u))).1 else (CT.hd (if w = "less" ∨ w = "same" then hearT nm x b u else if w = "since" then (if (hearT nm x a t).hd.1.isSome then firstT b else hearT nm x b u) else (if (hearT nm x a t).hd.1.isSome then hearT nm x b u else u))).1), c.2) (hearT nm x a t) (if w = "less" ∨ w = "same" then hearT nm x b u else if w = "since" then (if (hearT nm x a t).hd.1.isSome then firstT b else hearT nm x b u) else (if (hearT nm x a t).hd.1.isSome then hearT nm x b u else u))) ∧
      CT.n2 ((if w = "less" ∨ w = "same" then cmpF w (hearT nm (f x) a (mapT f t)).hd.1 (CT.hd (if w = "less" ∨ w = "same" then hearT nm (f x) b (mapT f u) else if w = "since" then (if (hearT nm (f x) a (mapT f t)).hd.1.isSome then firstT b else hearT nm (f x) b (mapT f u)) else (if (hearT nm (f x) a (mapT f t)).hd.1.isSome then hearT nm (f x) b (mapT f u) else mapT f u))).1 else (CT.hd (if w = "less" ∨ w = "same" then hearT nm (f x) b (mapT f u) else if w = "since" then (if (hearT nm (f x) a (mapT f t)).hd.1.isSome then firstT b else hearT nm (f x) b (mapT f u)) else (if (hearT nm (f x) a (mapT f t)).hd.1.isSome then hearT nm (f x) b (mapT f u) else mapT f u))).1), (mapC f c).2) (hearT nm (f x) a (mapT f t)) (if w = "less" ∨ w = "same" then hearT nm (f x) b (mapT f u) else if w = "since" then (if (hearT nm (f x) a (mapT f t)).hd.1.isSome then firstT b else hearT nm (f x) b (mapT f u)) else (if (hearT nm (f x) a (mapT f t)).hd.1.isSome then hearT nm (f x) b (mapT f u) else mapT f u)) =
      mapT f (.n2 ((if w = "less" ∨ w = "same" then cmpF w (hearT nm x a t).hd.1 (CT.hd (if w = "less" ∨ w = "same" then hearT nm x b u else if w = "since" then (if (hearT nm x a t).hd.1.isSome then firstT b else hearT nm x b u) else (if (hearT nm x a t).hd.1.isSome then hearT nm x b u else u))).1 else (CT.hd (if w = "less" ∨ w = "same" then hearT nm x b u else if w = "since" then (if (hearT nm x a t).hd.1.isSome then firstT b else hearT nm x b u) else (if (hearT nm x a t).hd.1.isSome then hearT nm x b u else u))).1), c.2) (hearT nm x a t) (if w = "less" ∨ w = "same" then hearT nm x b u else if w = "since" then (if (hearT nm x a t).hd.1.isSome then firstT b else hearT nm x b u) else (if (hearT nm x a t).hd.1.isSome then hearT nm x b u else u)))
    rw [g', e]
    generalize (if w = "less" ∨ w = "same" then hearT nm x b u else if w = "since" then (if (hearT nm x a t).hd.1.isSome then firstT b else hearT nm x b u) else (if (hearT nm x a t).hd.1.isSome then hearT nm x b u else u)) = U at j' ⊢
    generalize hearT nm x a t = Tt at i ⊢
    refine ⟨⟨⟨?_, k1.h⟩, i, j'⟩, ?_⟩
    · exact inO_ite (cmp_in i.hd.a) j'.hd.a
    · rw [mapT_hd, mapT_hd]
      show CT.n2 ((if w = "less" ∨ w = "same" then cmpF w (Tt.hd.1.map f) (U.hd.1.map f) else U.hd.1.map f), _) _ _ = CT.n2 (Option.map f (if w = "less" ∨ w = "same" then cmpF w Tt.hd.1 U.hd.1 else U.hd.1), _) _ _
      rw [cmp_map I i.hd.a j'.hd.a, ite_map]
      rfl
  | m + 1, .iff a b d, ok, .n3 c t u v, ⟨h1, h2, h3, h4⟩, ⟨k1, k2, k3, k4⟩ => by
    obtain ⟨i, e⟩ := hear_map I (nm := nm) hx m a ok.1 t h2 k2
    obtain ⟨j, g⟩ := hear_map I (nm := nm) hx m b ok.2.1 u h3 k3
    obtain ⟨l, o⟩ := hear_map I (nm := nm) hx m d ok.2.2 v h4 k4
    refine ⟨⟨⟨?_, k1.h⟩, i, j, l⟩, ?_⟩
    · show inO A (if (hearT nm x a t).hd.1.isNone then (hearT nm x d v).hd.1 else (hearT nm x b u).hd.1)
      exact inO_ite l.hd.a j.hd.a
    · show CT.n3 ((if (hearT nm (f x) a (mapT f t)).hd.1.isNone then (hearT nm (f x) d (mapT f v)).hd.1 else (hearT nm (f x) b (mapT f u)).hd.1), _) (hearT nm (f x) a (mapT f t)) (hearT nm (f x) b (mapT f u)) (hearT nm (f x) d (mapT f v)) =
        CT.n3 (Option.map f (if (hearT nm x a t).hd.1.isNone then (hearT nm x d v).hd.1 else (hearT nm x b u).hd.1), _) (mapT f (hearT nm x a t)) (mapT f (hearT nm x b u)) (mapT f (hearT nm x d v))
      rw [e, g, o, mapT_hd, mapT_hd, mapT_hd]
      show CT.n3 ((if ((hearT nm x a t).hd.1.map f).isNone then (hearT nm x d v).hd.1.map f else (hearT nm x b u).hd.1.map f), _) _ _ _ = _
      rw [isN_map, ite_map]
      rfl
  | m + 1, .num w j a, ok, .n1 c t, ⟨h1, h2, h3⟩, ⟨k1, k2⟩ => by
    obtain ⟨i, e⟩ := hear_map I (nm := nm) hx m a ok.2 t h3 k2
    show InT A (.n1 (ownC nm x (.num w j a) c [(hearT nm x a t).hd.1] [t.hd.1]) (hearT nm x a t)) ∧ CT.n1 (ownC nm (f x) (.num w j a) (mapC f c) [(hearT nm (f x) a (mapT f t)).hd.1] [(mapT f t).hd.1]) (hearT nm (f x) a (mapT f t)) = mapT f (.n1 (ownC nm x (.num w j a) c [(hearT nm x a t).hd.1] [t.hd.1]) (hearT nm x a t))
    rw [e, mapT_hd, mapT_hd]
    generalize hearT nm x a t = Tt at i ⊢
    show InT A (.n1 (ownC nm x (.num w j a) c [Tt.hd.1] [t.hd.1]) Tt) ∧ CT.n1 (ownC nm (f x) (.num w j a) (mapC f c) [Tt.hd.1.map f] [t.hd.1.map f]) (mapT f Tt) = _
    have key : InC A (ownC nm x (.num w j a) c [Tt.hd.1] [t.hd.1]) ∧ ownC nm (f x) (.num w j a) (mapC f c) [Tt.hd.1.map f] [t.hd.1.map f] = mapC f (ownC nm x (.num w j a) c [Tt.hd.1] [t.hd.1]) := by
      have hi := i.hd.a
      generalize Tt.hd.1 = o at hi ⊢
      generalize t.hd.1 = p
      by_cases q : w = "times"
      · have e1 : ∀ (y : Num) (c : Cell) (o p : Option Num), ownC nm y (.num w j a) c [o] [p] = (if (if o.isSome then min (c.2.1 + 1) j else c.2.1) = j then some y else none, if o.isSome then min (c.2.1 + 1) j else c.2.1, c.2.2) := by
          intros
          simp [ownC, q]
        rw [e1, e1, isS_map]
        refine ⟨⟨inO_itx hx, k1.h⟩, ?_⟩
        show ((if (if o.isSome then min (c.2.1 + 1) j else c.2.1) = j then some (f x) else none), _, _) = mapC f ((if (if o.isSome then min (c.2.1 + 1) j else c.2.1) = j then some x else none), _, _)
        rw [itx_map]
        rfl
      · have e1 : ∀ (y : Num) (c : Cell) (o p : Option Num), ownC nm y (.num w j a) c [o] [p] = (toldF w j (trim w j (insO o c.2.2)), c.2.1, trim w j (insO o c.2.2)) := by
          intros
          simp [ownC, q]
        rw [e1, e1]
        obtain ⟨m1, m2⟩ := insO_map I hi k1.h
        have m3 : ∀ y ∈ trim w j (insO o c.2.2), y ∈ A := fun y hy => m2 y (trim_sub.subset hy)
        refine ⟨⟨told_in m3, m3⟩, ?_⟩
        show (toldF w j (trim w j (insO (o.map f) (c.2.2.map f))), c.2.1, trim w j (insO (o.map f) (c.2.2.map f))) = ((toldF w j (trim w j (insO o c.2.2))).map f, c.2.1, (trim w j (insO o c.2.2)).map f)
        rw [m1, trim_map, told_map]
    refine ⟨⟨key.1, i⟩, ?_⟩
    rw [key.2]
    rfl
  | m + 1, .circ j z a, ok, .n1 c t, ⟨h1, h2, h3⟩, ⟨k1, k2⟩ => by
    obtain ⟨i, e⟩ := hear_map I (nm := nm) hx m a ok.2.2 t h3 k2
    show InT A (.n1 ((if (if (hearT nm x a t).hd.1.isSome then (c.2.1 + 1) % j else c.2.1) = z then some x else none), (if (hearT nm x a t).hd.1.isSome then (c.2.1 + 1) % j else c.2.1), c.2.2) (hearT nm x a t)) ∧
      CT.n1 ((if (if (hearT nm (f x) a (mapT f t)).hd.1.isSome then (c.2.1 + 1) % j else c.2.1) = z then some (f x) else none), (if (hearT nm (f x) a (mapT f t)).hd.1.isSome then (c.2.1 + 1) % j else c.2.1), c.2.2.map f) (hearT nm (f x) a (mapT f t)) = CT.n1 (Option.map f (if (if (hearT nm x a t).hd.1.isSome then (c.2.1 + 1) % j else c.2.1) = z then some x else none), (if (hearT nm x a t).hd.1.isSome then (c.2.1 + 1) % j else c.2.1), c.2.2.map f) (mapT f (hearT nm x a t))
    rw [e, mapT_hd]
    show _ ∧ CT.n1 ((if (if ((hearT nm x a t).hd.1.map f).isSome then (c.2.1 + 1) % j else c.2.1) = z then some (f x) else none), (if ((hearT nm x a t).hd.1.map f).isSome then (c.2.1 + 1) % j else c.2.1), _) _ = _
    rw [isS_map, itx_map]
    exact ⟨⟨⟨inO_itx hx, k1.h⟩, i⟩, rfl⟩
end
end My

set_option Elab.async false
set_option linter.all false
set_option maxRecDepth 100000
namespace My
open PySem L2 KR

/-! ### numbers in others' places -/
theorem pair_abs {t b : Int} (hb : 0 < b) : (pairOf t b).1.natAbs ≤ t.natAbs := by
  show (t / gc t b).natAbs ≤ _
  rw [Int.natAbs_ediv_of_dvd (by rw [gc_int hb]; exact Int.gcd_dvd_left ..)]
  exact Nat.div_le_self _ _
theorem number_eq2 {n : Nat} {t : List Int} {k : Int} (ht : Tp t) (hl : t.length ≤ 2520) (h0 : 0 ≤ k) (h1 : k < 990000) : ∃ (x : Int × Int) (k' : Int), Fr x ∧ x.1.natAbs ≤ 10 ^ 12 ∧ k < k' ∧ k' ≤ k + 4 ∧ call (n + 3) 26 [St t k] = some (.ok (W x), [St t k']) := by
  obtain ⟨r, r0, r1, e⟩ := take_eq (n := n) (m := 14) ht hl h0 (by omega) (by decide)
  rw [show n + 3 = (n + 2) + 1 from rfl, call]
  have pw : ∀ (a : Int) (m : Int), 0 ≤ a → a < 1000 → 0 ≤ m → m ≤ 4 → gpow (.int a) (.int m) = some (.int (a ^ m.toNat)) := fun a m ha hb hc hd => if_pos ⟨hc, by omega, by omega⟩
  have bd : ∀ (a : Int) (m : Nat), 0 ≤ a → a < 1000 → 0 ≤ a ^ m ∧ a ^ m ≤ ((1000 ^ m : Nat) : Int) := fun a m ha hb => by
    obtain ⟨j, rfl⟩ := Int.eq_ofNat_of_zero_le ha
    rw [← Int.natCast_pow]
    exact ⟨Int.natCast_nonneg _, Int.ofNat_le.mpr (Nat.pow_le_pow_left (by omega) m)⟩
  by_cases q : r = 0
  · obtain ⟨a, a0, a1, e1⟩ := take_eq (n := n) (k := k + 1) (m := 1000) ht hl (by omega) (by omega) (by decide)
    obtain ⟨b, b0, b1, e2⟩ := take_eq (n := n) (k := k + 1 + 1) (m := 1000) ht hl (by omega) (by omega) (by decide)
    obtain ⟨c, c0, c1, e3⟩ := take_eq (n := n) (k := k + 1 + 1 + 1) (m := 1000) ht hl (by omega) (by omega) (by decide)
    have p1 := pw a 4 a0 a1 (by decide) (by decide)
    have p2 := pw b 3 b0 b1 (by decide) (by decide)
    have p3 := pw c 3 c0 c1 (by decide) (by decide)
    have s1 := bd a 4 a0 a1
    have s2 := bd b 3 b0 b1
    have s3 := bd c 3 c0 c1
    have u4 : (4 : Int).toNat = 4 := rfl
    have u3 : (3 : Int).toNat = 3 := rfl
    rw [u4] at p1
    rw [u3] at p2 p3
    generalize a ^ 4 = a4 at *
    generalize b ^ 3 = b3' at *
    generalize c ^ 3 = c3 at *
    have z := pair_eq (n := n) (t := a4 - b3') (b := 1 + c3) (by omega) (by unfold KR.sm; omega)
    refine ⟨pairOf (a4 - b3') (1 + c3), k + 1 + 1 + 1 + 1, pair_fr (by omega) (by omega) (by omega), Nat.le_trans (pair_abs (by omega)) (by omega), by omega, by omega, ?_⟩
    simp [bodies, runD, b26, lockOf, backs, takeA, putA, e, q, e1, e2, e3, p1, p2, p3, z]
  · obtain ⟨a, a0, a1, e1⟩ := take_eq (n := n) (k := k + 1) (m := 9) ht hl (by omega) (by omega) (by decide)
    obtain ⟨b, b0, b1, e2⟩ := take_eq (n := n) (k := k + 1 + 1) (m := 3) ht hl (by omega) (by omega) (by decide)
    have z := pair_eq (n := n) (t := a - 4) (b := 1 + b) (by omega) (by unfold KR.sm; omega)
    refine ⟨pairOf (a - 4) (1 + b), k + 1 + 1 + 1, pair_fr (by omega) (by omega) (by omega), Nat.le_trans (pair_abs (by omega)) (by omega), by omega, by omega, ?_⟩
    simp [bodies, runD, b26, lockOf, backs, takeA, putA, e, q, e1, e2, z]

def toB (A B : List Num) (x : Num) : Num := B.getD (A.idxOf x) (0, 1)
theorem lt_at {L : List Num} (h : L.Pairwise lt) {i j : Nat} (hi : i < L.length) (hj : j < L.length) : lt L[i] L[j] ↔ i < j := by
  have p := List.pairwise_iff_getElem.mp h
  constructor
  · intro l
    rcases Nat.lt_trichotomy i j with q | q | q
    · exact q
    · subst q; exact absurd l lt_irr
    · exact absurd l (lt_asymm (p j i hj hi q))
  · exact fun q => p i j hi hj q
theorem toB_at {A B : List Num} {x : Num} (hx : x ∈ A) (hl : B.length = A.length) : ∃ i, ∃ (h1 : i < A.length) (h2 : i < B.length), A.idxOf x = i ∧ A[i] = x ∧ toB A B x = B[i] := by
  have h := List.idxOf_lt_length_iff.mpr hx
  refine ⟨A.idxOf x, h, by omega, rfl, List.getElem_idxOf h, ?_⟩
  unfold toB
  rw [List.getD_eq_getElem?_getD, List.getElem?_eq_getElem (by omega)]
  rfl
theorem iso_toB {A B : List Num} (ha : Good A) (hb : Good B) (hl : B.length = A.length) : Iso A (toB A B) := by
  constructor
  · intro x hx y hy
    obtain ⟨i, i1, i2, _, e1, e2⟩ := toB_at (B := B) hx hl
    obtain ⟨j, j1, j2, _, e3, e4⟩ := toB_at (B := B) hy hl
    rw [e2, e4, lt_at hb.s i2 j2, ← lt_at ha.s i1 j1, e1, e3]
  · intro x hx y hy e
    obtain ⟨i, i1, i2, _, e1, e2⟩ := toB_at (B := B) hx hl
    obtain ⟨j, j1, j2, _, e3, e4⟩ := toB_at (B := B) hy hl
    rw [e2, e4] at e
    have n1 : ¬ i < j := fun q => lt_irr (by have := (lt_at hb.s i2 j2).mpr q; rwa [e] at this)
    have n2 : ¬ j < i := fun q => lt_irr (by have := (lt_at hb.s j2 i2).mpr q; rwa [e] at this)
    have : i = j := by omega
    subst this
    rw [← e1, ← e3]
theorem toB_fr {A B : List Num} (hb : Good B) (hl : B.length = A.length) {x : Num} (hx : x ∈ A) : Fr (toB A B x) := by
  obtain ⟨i, i1, i2, _, e1, e2⟩ := toB_at (B := B) hx hl
  rw [e2]
  exact hb.f _ (List.getElem_mem _)
theorem tidx {A : List Num} {x : Num} (h : x ∈ A) : gtidx (A.map fr) (fr x) = some (A.idxOf x) := by
  unfold gtidx
  rw [pys_fr, py_fr]
  dsimp only
  rw [if_pos ⟨shaped_frs A, shaped_fr⟩, List.findIdx?_map]
  have e : ((fun q => PyData.eqv q (.tuple [.int x.1, .int x.2])) ∘ fun y : Int × Int => PyData.tuple [.int y.1, .int y.2]) = fun y => y == x := by
    funext y
    show PyData.eqv (.tuple [.int y.1, .int y.2]) (.tuple [.int x.1, .int x.2]) = _
    rw [eqv_fr]
    exact Bool.eq_iff_iff.mpr (by simp)
  rw [e, List.findIdx?_eq_some_of_exists ⟨x, h, by simp⟩]
  rfl
theorem call34 {k : Nat} {rs : List RV} : call (k + 1) 34 rs = runD 3 3 (b34 (call k)) rs := by
  rw [call]
  simp only [bodies]
theorem replaced_ok {k : Nat} {A B : List Num} {o : Option Num} (ho : ∀ x, o = some x → x ∈ A) (hl : B.length = A.length) : call (k + 1) 34 [.val (opt o), OT A, T B] = some (.ok (.val (opt (o.map (toB A B)))), [.val (opt o), OT A, T B]) := by
  rw [call34]
  unfold runD b34
  cases o with
  | none => simp [lockOf, backs, opt_none, isN_non]
  | some x =>
    obtain ⟨i, i1, i2, e0, e1, e2⟩ := toB_at (B := B) (ho x rfl) hl
    have et := tidx (ho x rfl)
    rw [e0] at et
    have eg : gix (.tup (B.map fr)) (.int (i : Int)) = some (fr B[i]) := by
      show atI (B.map fr) (i : Int) = _
      rw [KR.atI_nat (by simpa using i2)]
      simp
    simp [lockOf, backs, opt_some, isN_fr, et, eg, e2]
end My

set_option Elab.async false
set_option linter.all false
set_option maxRecDepth 100000
namespace My
open PySem L2 KR
/-! ### the others -/
def isT (rv : RV) (L : List Num) : Prop := rv = T L ∨ rv = OT L
abbrev BO1 (cc : Nat → Cl) : S := sif (tst (KR.bin glt (cal (f1 glen) (acons (getv 2) (KR.ret []))) (cal (f1 glen) (acons (getv 1) (KR.ret []))))) (sset 2 (ocall (cc 28) 2 (cval (getv 2) (cval (frz (ocall (cc 26) 1 (clend 0 (KR.ret [])))) (KR.ret []))))) skip
/-- what is drawn -/
structure Drawn (L : List Num) (m : Nat) : Prop where
  g : Good L
  l : L.length ≤ m
  b : ∀ x ∈ L, x.1.natAbs ≤ 10 ^ 12
theorem oth_turn {n : Nat} {t : List Int} (ht : Tp t) (hl : t.length ≤ 2520) {k : Int} (h0 : 0 ≤ k) (h1 : k < 990000) {A L : List Num} {rv : RV} {v3 v4 v5 : Option RV} (hA : A.length ≤ 100) (hr : isT rv L) (hd : Drawn L A.length) :
    ∃ (k' : Int) (rv' : RV) (L' : List Num), k ≤ k' ∧ k' ≤ k + 4 ∧ isT rv' L' ∧ Drawn L' A.length ∧ BO1 (call (n + 3)) [0] [some (St t k), some (T A), some rv, v3, v4, v5] = some (.ok .nx, [some (St t k'), some (T A), some rv', v3, v4, v5]) := by
  by_cases q : L.length < A.length
  · obtain ⟨x, k1, hx, hb, b1, b2, e⟩ := number_eq2 (n := n) ht hl h0 (by omega)
    have ew := with_ok (n := n + 1) x L hx hd.g (by have := hd.l; omega)
    refine ⟨k1, OT (ins x L), ins x L, by omega, by omega, .inr rfl, ⟨ins_good hx hd.g, ?_, fun y hy => ?_⟩, ?_⟩
    · have := ins_len (x := x) (l := L); omega
    · rcases ins_in hy with z | z
      · rw [z]; exact hb
      · exact hd.b y z
    · rcases hr with rfl | rfl
      · simp [takeA, putA, q, e, ew]
      · simp [takeA, putA, q, e, ew]
  · refine ⟨k, rv, L, by omega, by omega, hr, hd, ?_⟩
    rcases hr with rfl | rfl
    · simp [q]
    · simp [q]
theorem oth_for {n : Nat} {t : List Int} (ht : Tp t) (hl : t.length ≤ 2520) {A : List Num} (hA : A.length ≤ 100) {v4 v5 : Option RV} : ∀ (xs : List D) (k : Int) (L : List Num) (rv : RV) (v3 : Option RV), 0 ≤ k → k + 4 * (xs.length : Int) < 990000 → isT rv L → Drawn L A.length →
    ∃ (k' : Int) (rv' : RV) (L' : List Num) (v3' : Option RV), k ≤ k' ∧ k' ≤ k + 4 * (xs.length : Int) ∧ isT rv' L' ∧ Drawn L' A.length ∧ forL (gnm 3) (BO1 (call (n + 3))) xs [0] [some (St t k), some (T A), some rv, v3, v4, v5] = some (.ok .nx, [some (St t k'), some (T A), some rv', v3', v4, v5])
  | [], k, L, rv, v3, h0, _, hr, hd => ⟨k, rv, L, v3, Int.le_refl _, by simp, hr, hd, rfl⟩
  | x :: xs, k, L, rv, v3, h0, h1, hr, hd => by
    rw [List.length_cons] at h1
    obtain ⟨k1, rv1, L1, a1, a2, a3, a4, e⟩ := oth_turn (n := n) ht hl h0 (by omega) (v3 := some (.val x)) (v4 := v4) (v5 := v5) hA hr hd
    obtain ⟨k', rv', L', v3', c1, c2, c3, c4, e'⟩ := oth_for (n := n) ht hl hA (v4 := v4) (v5 := v5) xs k1 L1 rv1 (some (.val x)) (by omega) (by omega) a3 a4
    refine ⟨k', rv', L', v3', by omega, by rw [List.length_cons]; omega, c3, c4, ?_⟩
    rw [forL_nx (ρ1 := [some (St t k), some (T A), some rv, some (.val x), v4, v5]) (by simp) e]
    exact e'
abbrev BO2 : S := sset 4 (val (cal (f2 gmax) (acons (getv 4) (acons (cal (f1 gabs) (acons (KR.bin gix (getv 5) (KR.ret (.int 0))) (KR.ret []))) (KR.ret [])))))
theorem gmax_ap {a b : Int} : gmax (.int a) (.int b) = some (.int (if b > a then b else a)) := rfl
theorem top_for {s a rv : RV} {v3 : Option RV} : ∀ (xs : List Num) (z : Int) (v5 : Option RV), 0 ≤ z → z ≤ 10 ^ 12 → (∀ x ∈ xs, x.1.natAbs ≤ 10 ^ 12) →
    ∃ (z' : Int) (v5' : Option RV), z ≤ z' ∧ z' ≤ 10 ^ 12 ∧ (∀ x ∈ xs, (x.1.natAbs : Int) ≤ z') ∧ forL (gnm 5) BO2 (xs.map fr) [0] [some s, some a, some rv, v3, some (KR.I z), v5] = some (.ok .nx, [some s, some a, some rv, v3, some (KR.I z'), v5'])
  | [], z, v5, h0, h1, h => ⟨z, v5, Int.le_refl _, h1, (fun x hx => by cases hx), rfl⟩
  | x :: xs, z, v5, h0, h1, h => by
    have hx := h x List.mem_cons_self
    obtain ⟨z', v5', a1, a2, a3, e⟩ := top_for (s := s) (a := a) (rv := rv) (v3 := v3) xs (if (x.1.natAbs : Int) > z then (x.1.natAbs : Int) else z) (some (W x)) (by split <;> omega) (by split <;> omega) fun y hy => h y (List.mem_cons_of_mem _ hy)
    refine ⟨z', v5', by split at a1 <;> omega, a2, fun y hy => ?_, ?_⟩
    · rcases List.mem_cons.mp hy with q | q
      · rw [q]; split at a1 <;> omega
      · exact a3 y q
    · rw [List.map_cons, forL_nx (ρ1 := [some s, some a, some rv, v3, some (KR.I z), some (W x)]) (ρ2 := [some s, some a, some rv, v3, some (KR.I (if (x.1.natAbs : Int) > z then (x.1.natAbs : Int) else z)), some (W x)]) (by simp) (by simp [gabs_eq, gmax_ap])]
      exact e
abbrev BO3 : S := sset 2 (val (KR.bin gadd (getv 2) (dtup (acons (dtup (acons (KR.bin gadd (KR.bin gadd (getv 4) (KR.ret (.int 1))) (getv 3)) (acons (KR.ret (.int 1)) (KR.ret [])))) (KR.ret [])))))
def more (L : List Num) (z : Int) (k : Nat) : List Num := L ++ (List.range k).map fun (i : Nat) => ((z + 1 + (i : Int), 1) : Num)
theorem more_succ {L : List Num} {z : Int} {k : Nat} : more L z (k + 1) = more L z k ++ [(z + 1 + (k : Int), 1)] := by
  unfold more
  rw [List.range_succ, List.map_append, List.append_assoc]
  rfl
theorem more_len {L : List Num} {z : Int} {k : Nat} : (more L z k).length = L.length + k := by simp [more]
theorem more_good {L : List Num} {z : Int} (h0 : 0 ≤ z) (h1 : z ≤ 10 ^ 12) (G : Good L) (hb : ∀ x ∈ L, (x.1.natAbs : Int) ≤ z) : ∀ k : Nat, k ≤ 1000 → Good (more L z k)
  | 0, _ => by
    have : more L z 0 = L := List.append_nil L
    rw [this]; exact G
  | k + 1, hk => by
    have ih := more_good h0 h1 G hb k (by omega)
    rw [more_succ]
    refine ⟨fun y hy => ?_, List.pairwise_append.mpr ⟨ih.s, List.pairwise_singleton _ _, fun a ha b hb' => ?_⟩⟩
    · rcases List.mem_append.mp hy with q | q
      · exact ih.f y q
      · rw [List.mem_singleton.mp q]
        exact ⟨by show (z + 1 + (k : Int)).natAbs ≤ 10 ^ 13; omega, by show (1 : Int) ≤ 10 ^ 10; decide, by show (0 : Int) < 1; decide, by show Nat.gcd _ (1 : Int).toNat = 1; exact Nat.gcd_one_right _⟩
    · rw [List.mem_singleton.mp hb']
      show a.1 * 1 < (z + 1 + (k : Int)) * a.2
      have pa := (ih.f a ha).p
      have ba : a.1 < z + 1 + (k : Int) := by
        unfold more at ha
        rcases List.mem_append.mp ha with q | q
        · have := hb a q; omega
        · obtain ⟨i, hi, rfl⟩ := List.mem_map.mp q
          have := List.mem_range.mp hi
          show z + 1 + (i : Int) < _
          omega
      have m : z + 1 + (k : Int) ≤ (z + 1 + (k : Int)) * a.2 := by
        have := Int.mul_le_mul_of_nonneg_left (show (1 : Int) ≤ a.2 by omega) (show 0 ≤ z + 1 + (k : Int) by omega)
        omega
      omega
theorem more_turn {s a rv : RV} {L : List Num} {i : Nat} {z : Int} {v5 : Option RV} (hr : isT rv L) (hl : L.length ≤ 2000) :
    BO3 [0] [some s, some a, some rv, some (KR.I i), some (KR.I z), v5] = some (.ok .nx, [some s, some a, some (T (L ++ [(z + 1 + (i : Int), 1)])), some (KR.I i), some (KR.I z), v5]) := by
  have g := gadd_tup (a := L.map fr) (b := [fr (z + 1 + (i : Int), 1)]) (by simp; omega)
  have e : (L ++ [((z + 1 + (i : Int), 1) : Num)]).map fr = L.map fr ++ [fr (z + 1 + (i : Int), 1)] := by rw [List.map_append]; rfl
  unfold T
  rw [e]
  rcases hr with rfl | rfl
  · simp [g]
  · simp [g]
theorem more_for {s a rv : RV} {L : List Num} {z : Int} {v3 v5 : Option RV} (hr : isT rv L) (hl : L.length ≤ 1000) {m : Nat} (hm : m ≤ 1000) :
    ∃ (rv' : RV) (v3' : Option RV), isT rv' (more L z m) ∧ forL (gnm 3) BO3 (ints' (upto m)) [0] [some s, some a, some rv, v3, some (KR.I z), v5] = some (.ok .nx, [some s, some a, some rv', v3', some (KR.I z), v5]) := by
  obtain ⟨ρ', ⟨rv', v3', h, rfl⟩, e⟩ := for_range (g := gnm 3) (b := BO3) (lk := [0]) (n := m) (P := fun k ρ => ∃ rv' v3', isT rv' (more L z k) ∧ ρ = [some s, some a, some rv', v3', some (KR.I z), v5])
    (fun k ρ hk ⟨rv', v3', h, hρ⟩ => by
      subst hρ
      have et := more_turn (s := s) (a := a) (i := k) (z := z) (v5 := v5) h (by rw [more_len]; omega)
      refine ⟨[some s, some a, some rv', some (KR.I (k : Nat)), some (KR.I z), v5], _, by simp, et, _, _, .inl ?_, rfl⟩
      rw [more_succ]) (ρ := [some s, some a, some rv, v3, some (KR.I z), v5]) ⟨rv, v3, by
      have : more L z 0 = L := List.append_nil L
      rw [this]; exact hr, rfl⟩
  exact ⟨rv', v3', h, e⟩
end My

set_option Elab.async false
set_option linter.all false
set_option maxRecDepth 100000
namespace My
open PySem L2 KR
theorem equal_fr {n : Nat} {x : Num} : call (n + 2) 22 [W x, W x] = some (.ok (.val (.bl true)), [W x, W x]) := by
  refine equal_tup (n := n + 1) (ds := [.int x.1, .int x.2]) (by simp) fun d hd => ?_
  rcases List.mem_cons.mp hd with rfl | hd
  · exact equal_int (n := n)
  · rw [List.mem_singleton] at hd
    subst hd
    exact equal_int (n := n)
theorem equal_opt {n : Nat} {o : Option Num} : call (n + 2) 22 [.val (opt o), .val (opt o)] = some (.ok (.val (.bl true)), [.val (opt o), .val (opt o)]) := by
  cases o with
  | none => exact equal_non (n := n + 1)
  | some x => exact equal_fr
theorem equal_cd {n : Nat} {c : Cell} (hc : c.2.2.length ≤ 1000) : call (n + 4) 22 [.val (cd c), .val (cd c)] = some (.ok (.val (.bl true)), [.val (cd c), .val (cd c)]) := by
  refine equal_tup (n := n + 3) (ds := [opt c.1, .int (c.2.1 : Nat), .tup (c.2.2.map fr)]) (by simp) fun d hd => ?_
  rcases List.mem_cons.mp hd with rfl | hd
  · exact equal_opt (n := n + 1)
  rcases List.mem_cons.mp hd with rfl | hd
  · exact equal_int (n := n + 2)
  · rw [List.mem_singleton] at hd
    subst hd
    refine equal_tup (n := n + 2) (by rw [List.length_map]; exact hc) fun d hd => ?_
    obtain ⟨x, _, rfl⟩ := List.mem_map.mp hd
    exact equal_fr (n := n)
theorem fits_cells : ∀ (m : Nat) (q : Q), q.ok m → ∀ t, Fits q t → ∀ c ∈ t.flat, HOk c
  | 0, _, h, _, _ => h.elim
  | m + 1, q, hq, t, ht => by
    intro c hc
    obtain ⟨p1, p2, p3⟩ := fits_prs ht
    rw [flat_kids] at hc
    rcases List.mem_cons.mp hc with rfl | hc
    · exact fits_hd ht
    · obtain ⟨l, hl, hc⟩ := List.mem_flatten.mp hc
      obtain ⟨u, hu, rfl⟩ := List.mem_map.mp hl
      rw [← p2] at hu
      obtain ⟨p, hp, rfl⟩ := List.mem_map.mp hu
      exact fits_cells m p.1 (kids_ok hq p.1 (by rw [← p1]; exact List.mem_map_of_mem hp)) p.2 (p3 p hp) c hc
theorem b33_eq (cc : Nat → Cl) : b33 cc = seq (sset 2 (val (dtup (KR.ret [])))) (seq (sfor (gnm 3) (icl rng1 (acons (KR.ret (.int 60)) (KR.ret []))) (BO1 cc)) (seq (sset 4 (val (KR.ret (.int 0)))) (seq (sfor (gnm 5) (its (getv 2)) BO2)
  (seq (sfor (gnm 3) (icl rng1 (acons (KR.bin gsub (cal (f1 glen) (acons (getv 1) (KR.ret []))) (cal (f1 glen) (acons (getv 2) (KR.ret [])))) (KR.ret []))) BO3) (sret (val (getv 2))))))) := rfl
theorem others_run {s s' : RV} {A L B : List Num} {rv1 rv2 : RV} {v3 v3' v5 : Option RV} {z : Int} {X1 X3 : List D} {B1 : S} (hs : lockOf 0 [s, T A] = [0]) (hb : backs 0 [s, T A] [some s', some (T A), some rv2, v3', some (KR.I z), v5] = some [s', T A]) (h1 : isT rv1 L) (h2 : isT rv2 B)
    (i1 : rng1 [.int 60] = some X1) (e1 : forL (gnm 3) B1 X1 [0] [some s, some (T A), some (.val (.tup [])), none, none, none] = some (.ok .nx, [some s', some (T A), some rv1, v3, none, none]))
    (e2 : forL (gnm 5) BO2 (L.map fr) [0] [some s', some (T A), some rv1, v3, some (KR.I 0), none] = some (.ok .nx, [some s', some (T A), some rv1, v3, some (KR.I z), v5]))
    (i3 : rng1 [.int ((A.length : Int) - L.length)] = some X3) (e3 : forL (gnm 3) BO3 X3 [0] [some s', some (T A), some rv1, v3, some (KR.I z), v5] = some (.ok .nx, [some s', some (T A), some rv2, v3', some (KR.I z), v5])) :
    runD 2 6 (seq (sset 2 (val (dtup (KR.ret [])))) (seq (sfor (gnm 3) (icl rng1 (acons (KR.ret (.int 60)) (KR.ret []))) B1) (seq (sset 4 (val (KR.ret (.int 0)))) (seq (sfor (gnm 5) (its (getv 2)) BO2)
  (seq (sfor (gnm 3) (icl rng1 (acons (KR.bin gsub (cal (f1 glen) (acons (getv 1) (KR.ret []))) (cal (f1 glen) (acons (getv 2) (KR.ret [])))) (KR.ret []))) BO3) (sret (val (getv 2)))))))) [s, T A] = some (.ok (T B), [s', T A]) := by
  have j1 : icl rng1 (acons (KR.ret (.int 60)) (KR.ret [])) [some s, some (T A), some (.val (.tup [])), none, none, none] = some (.ok X1, [some s, some (T A), some (.val (.tup [])), none, none, none]) := icl_ok (as := [.int 60]) (by simp) i1
  have j3 : icl rng1 (acons (KR.bin gsub (cal (f1 glen) (acons (getv 1) (KR.ret []))) (cal (f1 glen) (acons (getv 2) (KR.ret [])))) (KR.ret [])) [some s', some (T A), some rv1, v3, some (KR.I z), v5] = some (.ok X3, [some s', some (T A), some rv1, v3, some (KR.I z), v5]) :=
    icl_ok (as := [.int ((A.length : Int) - L.length)]) (by rcases h1 with rfl | rfl <;> simp) i3
  have j2 : its (getv 2) [some s', some (T A), some rv1, v3, some (KR.I 0), none] = some (.ok (L.map fr), [some s', some (T A), some rv1, v3, some (KR.I 0), none]) := by rcases h1 with rfl | rfl <;> simp
  have j4 : val (getv 2) [some s', some (T A), some rv2, v3', some (KR.I z), v5] = some (.ok (T B), [some s', some (T A), some rv2, v3', some (KR.I z), v5]) := by rcases h2 with rfl | rfl <;> simp
  unfold runD
  rw [if_pos ⟨rfl, by decide⟩, hs]
  generalize icl rng1 (acons (KR.ret (.int 60)) (KR.ret [])) = Z1 at j1 ⊢
  generalize icl rng1 _ = Z3 at j3 ⊢
  generalize its (getv 2) = Z2 at j2 ⊢
  generalize val (getv 2) = Z4 at j4 ⊢
  generalize BO2 = B2 at e2 ⊢
  generalize BO3 = B3 at e3 ⊢
  generalize L.map fr = LL at j2 e2
  simp [j1, e1, j2, e2, j3, e3, j4, hb]
theorem others_ok {n : Nat} {t : List Int} (ht : Tp t) (hl : t.length ≤ 2520) {k : Int} (h0 : 0 ≤ k) (h1 : k < 900000) {A : List Num} (hA : A.length ≤ 100) :
    ∃ (k' : Int) (B : List Num), k ≤ k' ∧ k' ≤ k + 240 ∧ Good B ∧ B.length = A.length ∧ call (n + 4) 33 [St t k, T A] = some (.ok (T B), [St t k', T A]) := by
  obtain ⟨k', rv1, L, v3, a1, a2, a3, a4, e1⟩ := oth_for (n := n) ht hl hA (v4 := none) (v5 := none) (ints' (upto 60)) k [] (T []) none h0 (by simp; omega) (.inl rfl) ⟨good_nil, Nat.zero_le _, fun x hx => by cases hx⟩
  have l60 : (ints' (upto 60)).length = 60 := by simp
  rw [l60] at a2
  obtain ⟨z, v5, b1, b2, b3, e2⟩ := top_for (s := St t k') (a := T A) (rv := rv1) (v3 := v3) L 0 none (Int.le_refl _) (by decide) a4.b
  have hL := a4.l
  obtain ⟨rv2, v3', c1, e3⟩ := more_for (s := St t k') (a := T A) (z := z) (v3 := v3) (v5 := v5) a3 (by omega) (m := A.length - L.length) (by omega)
  refine ⟨k', more L z (A.length - L.length), a1, by omega, more_good b1 b2 a4.g b3 _ (by omega), by rw [more_len]; omega, ?_⟩
  rw [show n + 4 = (n + 3) + 1 from rfl, call]
  simp only [bodies]
  rw [b33_eq]
  have i3 : rng1 [.int ((A.length : Int) - L.length)] = some (ints' (upto (A.length - L.length))) := by
    rw [show (A.length : Int) - L.length = ((A.length - L.length : Nat) : Int) by omega]
    exact upto_rng (by omega)
  have i1 : rng1 [.int 60] = some (ints' (upto 60)) := upto_rng (n := 60) (by decide)
  exact others_run (by simp [lockOf]) (by simp [backs]) a3 c1 i1 e1 e2 i3 e3
end My

set_option Elab.async false
set_option linter.all false
set_option maxRecDepth 100000
namespace My
open PySem L2 KR
/-! ### cells alike -/
def mapD (f : Num → Num) : D → D
  | .tup [.int a, .int b] => fr (f (a, b))
  | d => d
theorem mapD_fr {f : Num → Num} {x : Num} : mapD f (fr x) = fr (f x) := rfl
abbrev ER (cc : Nat → Cl) : M D := frz (ocall (cc 34) 3 (cval (getv 7) (clend 2 (cval (getv 3) (KR.ret [])))))
abbrev BA (cc : Nat → Cl) (Z : M RV) : S := seq (sset 5 (val (cal (f1 gtup) (acons (frz Z) (KR.ret [])))))
 (seq (sset 6 (val (dtup (acons (frz (ocall (cc 34) 3 (cval (KR.bin gix (KR.bin gix (getv 0) (getv 4)) (KR.ret (.int 0))) (clend 2 (cval (getv 3) (KR.ret [])))))) (acons (KR.bin gix (KR.bin gix (getv 0) (getv 4)) (KR.ret (.int 1))) (acons (getv 5) (KR.ret [])))))))
  (sif (tnot (tstV (frz (ocall (cc 22) 2 (cval (KR.bin gix (getv 1) (getv 4)) (cval (getv 6) (KR.ret []))))))) (sret (val (KR.ret (.bl false)))) skip))
abbrev ZA (cc : Nat → Cl) : M RV := lcomp [7] (its (KR.bin gix (KR.bin gix (getv 0) (getv 4)) (KR.ret (.int 2)))) (gnm 7) (KR.ret true) (ER cc)
theorem b35_eq (cc : Nat → Cl) : b35 cc = seq (sif (tst (KR.bin gne (cal (f1 glen) (acons (getv 0) (KR.ret []))) (cal (f1 glen) (acons (getv 1) (KR.ret []))))) (sret (val (KR.ret (.bl false)))) skip)
  (seq (sfor (gnm 4) (icl rng1 (acons (cal (f1 glen) (acons (getv 0) (KR.ret []))) (KR.ret []))) (BA cc (ZA cc))) (sret (val (KR.ret (.bl true))))) := rfl
abbrev RepOk (cc : Nat → Cl) (A B : List Num) : Prop := ∀ o : Option Num, (∀ x, o = some x → x ∈ A) → cc 34 [.val (opt o), OT A, T B] = some (.ok (.val (opt (o.map (toB A B)))), [.val (opt o), OT A, T B])
theorem held_comp {cc : Nat → Cl} {A B : List Num} (hr : RepOk cc A B) {X Y : D} {i : Int} {c : Cell} (hi : gix X (.int i) = some (cd c)) (hc : ∀ y ∈ c.2.2, y ∈ A) (hl : c.2.2.length ≤ 1000) {v5 v6 : Option RV} :
    ZA cc [some (.val X), some (.val Y), some (OT A), some (T B), some (KR.I i), v5, v6, none] = some (.ok (.olst ((c.2.2.map (toB A B)).map fr)), [some (.val X), some (.val Y), some (OT A), some (T B), some (KR.I i), v5, v6, none]) := by
  have e := lcomp_pure (it := its (KR.bin gix (KR.bin gix (getv 0) (getv 4)) (KR.ret (.int 2)))) (t := KR.ret true) (elt := ER cc) (v := 7) (p := fun _ => true) (f := mapD (toB A B)) (xs := c.2.2.map fr)
    (ρ0 := [some (.val X), some (.val Y), some (OT A), some (T B), some (KR.I i), v5, v6, none]) (ρ := [some (.val X), some (.val Y), some (OT A), some (T B), some (KR.I i), v5, v6, none])
    (by simp [hi, cd_2]) (by simp) (by rfl) (by rw [List.length_map, size_line]; omega) (fun x hx => by simp)
    (fun d hd _ => by
      obtain ⟨y, hy, rfl⟩ := List.mem_map.mp hd
      have e := hr (some y) (fun x hx => by cases hx; exact hc y hy)
      rw [opt_some, show Option.map (toB A B) (some y) = some (toB A B y) from rfl, opt_some] at e
      rw [mapD_fr]
      simp [takeA, putA, e])
  rw [List.filter_eq_self.mpr (fun _ _ => rfl), List.map_map] at e
  rw [List.map_map]
  exact e
theorem alike_turn {cc : Nat → Cl} {A B : List Num} (hr : RepOk cc A B) {X Y : D} {i : Int} {c : Cell} (hi : gix X (.int i) = some (cd c)) (hj : gix Y (.int i) = some (cd (mapC (toB A B) c))) (hc : InC A c) (hl : c.2.2.length ≤ 1000)
    (he : cc 22 [.val (cd (mapC (toB A B) c)), .val (cd (mapC (toB A B) c))] = some (.ok (.val (.bl true)), [.val (cd (mapC (toB A B) c)), .val (cd (mapC (toB A B) c))])) {lk : List Nat} (h5 : 5 ∉ lk) (h6 : 6 ∉ lk) {v5 v6 : Option RV} :
    ∃ v5' v6', BA cc (ZA cc) lk [some (.val X), some (.val Y), some (OT A), some (T B), some (KR.I i), v5, v6, none] = some (.ok .nx, [some (.val X), some (.val Y), some (OT A), some (T B), some (KR.I i), v5', v6', none]) := by
  have hz := held_comp (cc := cc) hr (Y := Y) hi hc.h hl (v5 := v5) (v6 := v6)
  have er := hr c.1 hc.a
  have em : D.tup [opt (c.1.map (toB A B)), .int (c.2.1 : Nat), .tup ((c.2.2.map (toB A B)).map fr)] = cd (mapC (toB A B) c) := rfl
  refine ⟨some (.val (.tup ((c.2.2.map (toB A B)).map fr))), some (.val (cd (mapC (toB A B) c))), ?_⟩
  unfold BA
  generalize ZA cc = Z at hz ⊢
  generalize (c.2.2.map (toB A B)).map fr = hh at hz em ⊢
  have gt : gtup (.lst hh) = some (.tup hh) := rfl
  simp [hz, h5, h6, gt, hi, hj, cd_0, cd_1, takeA, putA, er, em, he]
end My

set_option Elab.async false
set_option linter.all false
set_option maxRecDepth 100000
namespace My
open PySem L2 KR
theorem at_map {α : Type} {g : α → D} {C : List α} {i : Nat} (h : i < C.length) : gix (.lst (C.map g)) (.int (i : Int)) = some (g C[i]) := by
  show atI (C.map g) (i : Int) = _
  rw [KR.atI_nat (by simpa using h)]
  simp
theorem alike_for {cc : Nat → Cl} {A B : List Num} (hr : RepOk cc A B) {C : List Cell} (hc : ∀ c ∈ C, InC A c ∧ c.2.2.length ≤ 1000)
    (he : ∀ c : Cell, c.2.2.length ≤ 1000 → cc 22 [.val (cd c), .val (cd c)] = some (.ok (.val (.bl true)), [.val (cd c), .val (cd c)])) {lk : List Nat} (h5 : 5 ∉ lk) (h6 : 6 ∉ lk) (h4 : 4 ∉ lk) :
    ∃ v4 v5 v6, forL (gnm 4) (BA cc (ZA cc)) (ints' (upto C.length)) lk [some (.val (.lst (C.map cd))), some (.val (.lst ((C.map (mapC (toB A B))).map cd))), some (OT A), some (T B), none, none, none, none] =
      some (.ok .nx, [some (.val (.lst (C.map cd))), some (.val (.lst ((C.map (mapC (toB A B))).map cd))), some (OT A), some (T B), v4, v5, v6, none]) := by
  obtain ⟨ρ', ⟨v4, v5, v6, rfl⟩, e⟩ := for_range (g := gnm 4) (b := BA cc (ZA cc)) (lk := lk) (n := C.length) (P := fun k ρ => ∃ v4 v5 v6, ρ = [some (.val (.lst (C.map cd))), some (.val (.lst ((C.map (mapC (toB A B))).map cd))), some (OT A), some (T B), v4, v5, v6, none])
    (fun k ρ hk ⟨v4, v5, v6, hρ⟩ => by
      subst hρ
      have hm := hc C[k] (List.getElem_mem _)
      have ei := at_map (g := cd) hk
      have ej := at_map (g := fun c => cd (mapC (toB A B) c)) hk
      have ej' : gix (.lst ((C.map (mapC (toB A B))).map cd)) (.int (k : Int)) = some (cd (mapC (toB A B) C[k])) := by rw [List.map_map]; exact ej
      obtain ⟨v5', v6', et⟩ := alike_turn (cc := cc) hr ei ej' hm.1 hm.2 (he _ (by show (List.map _ _).length ≤ _; rw [List.length_map]; exact hm.2)) h5 h6 (v5 := v5) (v6 := v6)
      generalize D.lst (C.map cd) = X at et ⊢
      generalize D.lst ((C.map (mapC (toB A B))).map cd) = Y at et ⊢
      exact ⟨[some (.val X), some (.val Y), some (OT A), some (T B), some (KR.I (k : Nat)), v5, v6, none], _, by simp [h4], et, _, _, _, rfl⟩) (ρ := [some (.val (.lst (C.map cd))), some (.val (.lst ((C.map (mapC (toB A B))).map cd))), some (OT A), some (T B), none, none, none, none]) ⟨none, none, none, rfl⟩
  exact ⟨v4, v5, v6, e⟩
theorem alike_run {X Y P Q : RV} {B1 : S} {R : List D} {z : Int} {Xd Yd : D} {v4 v5 v6 : Option RV} (hx : X = .val Xd) (hy : Y = .val Yd) (lx : glen Xd = some (.int z)) (ly : glen Yd = some (.int z)) (hR : rng1 [.int z] = some R)
    (hl : lockOf 0 [X, Y, P, Q] = []) (hb : backs 0 [X, Y, P, Q] [some X, some Y, some P, some Q, v4, v5, v6, none] = some [X, Y, P, Q])
    (e : forL (gnm 4) B1 R [] [some X, some Y, some P, some Q, none, none, none, none] = some (.ok .nx, [some X, some Y, some P, some Q, v4, v5, v6, none])) :
    runD 4 8 (seq (sif (tst (KR.bin gne (cal (f1 glen) (acons (getv 0) (KR.ret []))) (cal (f1 glen) (acons (getv 1) (KR.ret []))))) (sret (val (KR.ret (.bl false)))) skip)
  (seq (sfor (gnm 4) (icl rng1 (acons (cal (f1 glen) (acons (getv 0) (KR.ret []))) (KR.ret []))) B1) (sret (val (KR.ret (.bl true)))))) [X, Y, P, Q] = some (.ok (.val (.bl true)), [X, Y, P, Q]) := by
  have j : icl rng1 (acons (cal (f1 glen) (acons (getv 0) (KR.ret []))) (KR.ret [])) [some X, some Y, some P, some Q, none, none, none, none] = some (.ok R, [some X, some Y, some P, some Q, none, none, none, none]) := icl_ok (as := [.int z]) (by subst hx; simp [lx]) hR
  unfold runD
  rw [if_pos ⟨rfl, by decide⟩, hl]
  generalize icl rng1 _ = Z at j ⊢
  subst hx hy
  simp [lx, ly, j, e, hb]
theorem call35 {k : Nat} {rs : List RV} : call (k + 1) 35 rs = runD 4 8 (b35 (call k)) rs := by
  rw [call]
  simp only [bodies]
theorem alike_ok {n : Nat} {A B : List Num} (hl : B.length = A.length) {C : List Cell} (hn : C.length ≤ 10000000) (hc : ∀ c ∈ C, InC A c ∧ c.2.2.length ≤ 1000) :
    call (n + 5) 35 [.val (.lst (C.map cd)), .val (.lst ((C.map (mapC (toB A B))).map cd)), OT A, T B] = some (.ok (.val (.bl true)), [.val (.lst (C.map cd)), .val (.lst ((C.map (mapC (toB A B))).map cd)), OT A, T B]) := by
  rw [show n + 5 = (n + 4) + 1 from rfl, call35, b35_eq]
  obtain ⟨v4, v5, v6, e⟩ := alike_for (cc := call (n + 4)) (A := A) (B := B) (fun o ho => replaced_ok (k := n + 3) ho hl) hc (fun c h => equal_cd (n := n) h) (lk := []) (by simp) (by simp) (by simp)
  refine alike_run (z := (C.length : Int)) rfl rfl ?_ ?_ (upto_rng2 hn) (by simp [lockOf]) (by simp [backs]) e
  · show some (D.int ((C.map cd).length : Nat)) = _
    rw [List.length_map]
  · show some (D.int (((C.map (mapC (toB A B))).map cd).length : Nat)) = _
    rw [List.length_map, List.length_map]
end My

set_option Elab.async false
set_option linter.all false
set_option maxRecDepth 100000
namespace My
open PySem L2 KR Mn
theorem amongst_snoc : ∀ (l : List (Option Num)) (o : Option Num) (A : List Num), amongst (l ++ [o]) A = amongst [o] (amongst l A)
  | [], o, A => rfl
  | none :: l, o, A => amongst_snoc l o A
  | some x :: l, o, A => amongst_snoc l o (ins x A)
def keepF (w : Str) (l : List (Option Num)) : Option Num := if w = "last" then (l.filterMap id).getLast? else (l.filterMap id).head?
theorem keep_none {w : Str} {l : List (Option Num)} : keepF w (l ++ [none]) = keepF w l := by simp [keepF]
theorem keep_last {l : List (Option Num)} {x : Num} : keepF "last" (l ++ [some x]) = some x := by simp [keepF]
theorem keep_first {w : Str} {l : List (Option Num)} {x : Num} (h : ¬ w = "last") : keepF w (l ++ [some x]) = match keepF w l with | none => some x | some y => some y := by
  unfold keepF
  rw [if_neg h, if_neg h, List.filterMap_append]
  cases l.filterMap id <;> rfl
def fmc (l : List (Option Num)) : Nat := (l.filterMap id).length
theorem fmc_snoc {l : List (Option Num)} {o : Option Num} : fmc (l ++ [o]) = fmc l + if o.isSome then 1 else 0 := by
  unfold fmc
  rw [List.filterMap_append, List.length_append]
  cases o <;> rfl
def runT (q : Q) (row : List Rec) : CT := row.foldl (fun t r => hearT r.1 r.2 q t) (firstT q)
theorem run_nil {q : Q} : runT q [] = firstT q := rfl
theorem run_snoc {q : Q} {row : List Rec} {r : Rec} : runT q (row ++ [r]) = hearT r.1 r.2 q (runT q row) := by
  unfold runT
  rw [List.foldl_append]
  rfl
theorem ans_snoc {f : List Rec → Option Num} {row : List Rec} {r : Rec} : ans f (row ++ [r]) = ans f row ++ [f (row ++ [r])] := by
  unfold ans
  rw [List.length_append, List.length_singleton, List.range_succ, List.map_append]
  congr 1
  · apply List.map_congr_left
    intro c hc
    have := List.mem_range.mp hc
    rw [List.take_append_of_le_length (by omega)]
  · rw [List.map_cons, List.map_nil, List.take_of_length_le (by simp)]
theorem ans_nil {f : List Rec → Option Num} : ans f [] = [] := rfl
theorem snoc_ne {row : List Rec} {r : Rec} : row ++ [r] ≠ [] := by simp
theorem start_snoc : ∀ (L : List (Option Num)) (o : Option Num) (i s : Nat), Mn.start (L ++ [o]) i s = if o.isSome then i + L.length + 1 else Mn.start L i s
  | [], none, i, s => rfl
  | [], some _, i, s => rfl
  | none :: L, o, i, s => by
    rw [List.cons_append, Mn.start, start_snoc L o (i + 1) s, Mn.start, List.length_cons]
    split
    · omega
    · rfl
  | some _ :: L, o, i, s => by
    rw [List.cons_append, Mn.start, start_snoc L o (i + 1) (i + 1), Mn.start, List.length_cons]
    split
    · omega
    · rfl
theorem pick_snoc {row : List Rec} {L : List (Option Num)} (hL : L.length = row.length) {r : Rec} {o : Option Num} : pickF (row ++ [r]) (L ++ [o]) = pickF row L ++ (if o.isSome then [r] else []) := by
  unfold pickF
  rw [List.zip_append hL.symm, List.filter_append, List.map_append]
  cases o <;> rfl
def cellOf (q : Q) (row : List Rec) : Cell := (mn q row, (match q with
  | .num w j a => if w = "times" then min (fmc (ans (mn a) row)) j else 0
  | .circ i _ a => fmc (ans (mn a) row) % i
  | _ => 0), (match q with
  | .num w j a => if w = "times" then [] else trim w j (amongst (ans (mn a) row) [])
  | _ => []))
def treeOf (q : Q) (row : List Rec) : CT := match q with
  | .now => .n0 (cellOf q row)
  | .nothing => .n0 (cellOf q row)
  | .is _ => .n0 (cellOf q row)
  | .one _ a => .n1 (cellOf q row) (runT a row)
  | .two w a b => .n2 (cellOf q row) (runT a row) (if w = "less" ∨ w = "same" then runT b row else if w = "since" then runT b (row.drop (Mn.start (ans (mn a) row) 0 0)) else runT b (pickF row (ans (mn a) row)))
  | .iff a b c => .n3 (cellOf q row) (runT a row) (runT b row) (runT c row)
  | .num _ _ a => .n1 (cellOf q row) (runT a row)
  | .circ _ _ a => .n1 (cellOf q row) (runT a row)
theorem tree_hd {q : Q} {row : List Rec} : (treeOf q row).hd = cellOf q row := by cases q <;> rfl
theorem first_hd : ∀ q : Q, (firstT q).hd = E0
  | .now => rfl
  | .nothing => rfl
  | .is _ => rfl
  | .one _ _ => rfl
  | .two _ _ _ => rfl
  | .iff _ _ _ => rfl
  | .num _ _ _ => rfl
  | .circ _ _ _ => rfl
theorem tree_nil (q : Q) : treeOf q [] = firstT q := by
  have hc : cellOf q [] = E0 := by
    unfold cellOf
    rw [mn_nil]
    cases q with
    | num w j a =>
      simp only [ans_nil, fmc, List.filterMap_nil, List.length_nil, amongst]
      unfold E0 trim
      split <;> simp
    | circ i j a => simp [ans_nil, fmc, E0]
    | _ => rfl
  cases q with
  | two w a b =>
    unfold treeOf
    rw [hc]
    have h1 : Mn.start (ans (mn a) []) 0 0 = 0 := rfl
    have h2 : pickF [] (ans (mn a) []) = [] := rfl
    dsimp only
    rw [h1, h2, List.drop_nil, run_nil, run_nil]
    split
    · rfl
    · split <;> rfl
  | _ =>
    unfold treeOf
    rw [hc]
    rfl
theorem take_cons_take {α : Type} {y : α} {A : List α} : ∀ j, (y :: A.take j).take j = (y :: A).take j
  | 0 => rfl
  | j + 1 => by rw [List.take_succ_cons, List.take_succ_cons, List.take_take, Nat.min_eq_left (by omega)]
theorem insR_take {x : Num} : ∀ (A : List Num) (j : Nat), (insR x (A.take j)).take j = (insR x A).take j
  | [], j => by rw [List.take_nil]
  | y :: A, 0 => by rw [List.take_zero, List.take_zero]
  | y :: A, j + 1 => by
    rw [List.take_succ_cons, insR, insR]
    by_cases h1 : y = x
    · rw [if_pos h1, if_pos h1, List.take_succ_cons, List.take_succ_cons, List.take_take, Nat.min_self]
    · rw [if_neg h1, if_neg h1]
      by_cases h2 : lt x y
      · rw [if_pos h2, if_pos h2, List.take_succ_cons, List.take_succ_cons, take_cons_take]
      · rw [if_neg h2, if_neg h2, List.take_succ_cons, List.take_succ_cons, insR_take A j]
theorem top_app {E B : List Num} {j : Nat} (h : B.length = j) : (E ++ B).drop ((E ++ B).length - j) = B := by
  rw [List.length_append, h, Nat.add_sub_cancel, List.drop_left' rfl]
theorem insR_len {x : Num} : ∀ A : List Num, A.length ≤ (insR x A).length ∧ (insR x A).length ≤ A.length + 1
  | [] => by simp [insR]
  | y :: A => by
    have := insR_len (x := x) A
    rw [insR]
    split
    · simp
    · split
      · simp
      · rw [List.length_cons, List.length_cons]; omega
theorem insR_front {x : Num} {B : List Num} (h : ∀ b ∈ B, lt x b) (ne : ∀ b ∈ B, b ≠ x) : insR x B = x :: B := by
  cases B with
  | nil => rfl
  | cons b B => rw [insR, if_neg (ne b List.mem_cons_self), if_pos (h b List.mem_cons_self)]
theorem insR_top {x : Num} (hx : Fr x) {B : List Num} {j : Nat} (hB : B.length = j) (fB : ∀ b ∈ B, Fr b) : ∀ D : List Num, (∀ d ∈ D, Fr d ∧ ∀ b ∈ B, lt d b) → (insR x (D ++ B)).drop ((insR x (D ++ B)).length - j) = (insR x B).drop ((insR x B).length - j)
  | [], _ => rfl
  | d :: D, h => by
    obtain ⟨hd, hb⟩ := h d List.mem_cons_self
    have front : (∀ b ∈ B, lt x b) → (insR x B).drop ((insR x B).length - j) = B := fun hf => by
      rw [insR_front hf fun b hb e => by rw [e] at hb; exact lt_irr (hf x hb)]
      exact top_app (E := [x]) hB
    rw [List.cons_append, insR]
    by_cases h1 : d = x
    · rw [if_pos h1, front fun b hb' => by rw [← h1]; exact hb b hb']
      exact top_app (E := d :: D) hB
    · rw [if_neg h1]
      by_cases h2 : lt x d
      · rw [if_pos h2, front fun b hb' => lt_trans hx.p hd.p (fB b hb').p h2 (hb b hb')]
        exact top_app (E := x :: d :: D) hB
      · rw [if_neg h2, ← insR_top hx hB fB D fun d' hd' => h d' (List.mem_cons_of_mem _ hd')]
        have hl := (insR_len (x := x) (D ++ B)).1
        rw [List.length_append] at hl
        rw [List.length_cons, show (insR x (D ++ B)).length + 1 - j = ((insR x (D ++ B)).length - j) + 1 by omega, List.drop_succ_cons]
theorem trim_ins {w : Str} {j : Nat} {x : Num} (hx : Fr x) {A : List Num} (G : Good A) : trim w j (ins x (trim w j A)) = trim w j (ins x A) := by
  have G2 := good_sub G (trim_sub (w := w) (j := j))
  rw [← insR_eq hx _ G2, ← insR_eq hx _ G]
  unfold trim
  by_cases q : w = "great"
  · rw [if_pos q, if_pos q, if_pos q]
    by_cases h : A.length ≤ j
    · rw [show A.length - j = 0 by omega, List.drop_zero]
    · have e : A = A.take (A.length - j) ++ A.drop (A.length - j) := (List.take_append_drop _ _).symm
      have hs := G.s
      rw [e] at hs
      obtain ⟨_, _, h3⟩ := List.pairwise_append.mp hs
      have := insR_top hx (B := A.drop (A.length - j)) (j := j) (by rw [List.length_drop]; omega) (fun b hb => G.f b (List.mem_of_mem_drop hb)) (A.take (A.length - j)) fun d hd => ⟨G.f d (List.mem_of_mem_take hd), h3 d hd⟩
      rw [← e] at this
      exact this.symm
  · rw [if_neg q, if_neg q, if_neg q]
    exact insR_take A j
theorem told_ord {w : Str} {j : Nat} {A : List Num} (hj : 1 ≤ j) : toldF w j (trim w j A) = ordF w j A := by
  unfold toldF ordF trim
  by_cases q : w = "great"
  · rw [if_pos q, if_pos q, if_pos q]
    by_cases h : A.length < j
    · rw [if_pos h, if_neg (by rw [List.length_drop]; omega)]
    · rw [if_neg h, if_pos (by rw [List.length_drop]; omega), List.head?_drop]
  · rw [if_neg q, if_neg q, if_neg q]
    by_cases h : A.length < j
    · rw [if_pos h, if_neg (by rw [List.length_take]; omega)]
    · rw [if_neg h, if_pos (by rw [List.length_take]; omega), List.getLast?_eq_getElem?, List.length_take, Nat.min_eq_left (by omega), List.getElem?_take_of_lt (by omega)]
theorem mn_keep {w : Str} {a : Q} {row : List Rec} (hw : w = "last" ∨ w = "first") : mn (.one w a) row = keepF w (ans (mn a) row) := by
  by_cases h : row = []
  · subst h
    rw [mn_nil, ans_nil]
    unfold keepF
    split <;> rfl
  · rw [mn_one h hw]
    rfl
theorem run_tree : ∀ (m : Nat) (q : Q), q.ok m → ∀ (n : Nat) (row : List Rec), row.length = n → (∀ r ∈ row, Fr r.2) → runT q row = treeOf q row
  | 0, _, h, _, _, _, _ => h.elim
  | m + 1, q, hq, 0, row, hl, hf => by
    have : row = [] := List.eq_nil_of_length_eq_zero hl
    subst this
    rw [run_nil, tree_nil]
  | m + 1, q, hq, n + 1, row, hl, hf => by
    obtain ⟨row, r, rfl⟩ : ∃ row' r, row = row' ++ [r] := ⟨row.dropLast, row.getLast (fun e => by rw [e] at hl; cases hl), (List.dropLast_concat_getLast _).symm⟩
    have hl' : row.length = n := by rw [List.length_append, List.length_singleton] at hl; omega
    have hf' : ∀ r ∈ row, Fr r.2 := fun r hr => hf r (List.mem_append_left _ hr)
    have ih := run_tree (m + 1) q hq n row hl' hf'
    have hd : ∀ (c : Q), c.ok m → ∀ (row : List Rec), (∀ r ∈ row, Fr r.2) → (runT c row).hd.1 = mn c row := fun c hc row hf => by
      rw [run_tree m c hc row.length row rfl hf, tree_hd]
      rfl
    have la : (row ++ [r]).getLast? = some r := List.getLast?_concat
    rw [run_snoc, ih]
    cases q with
    | now => 
      have e : mn .now (row ++ [r]) = some r.2 := by rw [mn, la]; rfl
      show CT.n0 (ownC r.1 r.2 .now (cellOf .now row) [] []) = CT.n0 (cellOf .now (row ++ [r]))
      unfold cellOf
      rw [e]
      rfl
    | nothing => rfl
    | is y =>
      have e : mn (.is y) (row ++ [r]) = if r.1 = y then some r.2 else none := by rw [mn, la]; rfl
      show CT.n0 (ownC r.1 r.2 (.is y) (cellOf (.is y) row) [] []) = CT.n0 (cellOf (.is y) (row ++ [r]))
      unfold cellOf
      rw [e]
      rfl
    | one w a =>
      have ha := hd a hq.2 row hf'
      have ha' := hd a hq.2 (row ++ [r]) hf
      rw [run_snoc] at ha'
      show CT.n1 (ownC r.1 r.2 (.one w a) (cellOf (.one w a) row) [(hearT r.1 r.2 a (runT a row)).hd.1] [(runT a row).hd.1]) (hearT r.1 r.2 a (runT a row)) = CT.n1 (cellOf (.one w a) (row ++ [r])) (runT a (row ++ [r]))
      rw [run_snoc, ha, ha']
      congr 1
      unfold cellOf
      rcases hq.1 with rfl | rfl | rfl
      · rw [mn_keep (.inl rfl), mn_keep (.inl rfl), ans_snoc]
        cases mn a (row ++ [r]) with
        | none => rw [keep_none]; rfl
        | some z => rw [keep_last]; rfl
      · rw [mn_keep (.inr rfl), mn_keep (.inr rfl), ans_snoc]
        cases mn a (row ++ [r]) with
        | none =>
          rw [keep_none]
          show ((if (keepF "first" (ans (mn a) row)).isNone then none else keepF "first" (ans (mn a) row)), _) = _
          cases keepF "first" (ans (mn a) row) <;> rfl
        | some z =>
          rw [keep_first (by simp)]
          show ((if (keepF "first" (ans (mn a) row)).isNone then some z else keepF "first" (ans (mn a) row)), _) = _
          cases keepF "first" (ans (mn a) row) <;> rfl
      · have e : mn (.one "before" a) (row ++ [r]) = mn a row := by rw [mn, if_neg snoc_ne, if_pos rfl, List.dropLast_concat]
        rw [e]
        rfl
    | two w a b =>
      have ha' := hd a hq.2.1 (row ++ [r]) hf
      rw [run_snoc] at ha'
      by_cases hw : w = "less" ∨ w = "same"
      · have hb' := hd b hq.2.2 (row ++ [r]) hf
        rw [run_snoc] at hb'
        have e1 : treeOf (.two w a b) row = .n2 (cellOf (.two w a b) row) (runT a row) (runT b row) := by unfold treeOf; dsimp only; rw [if_pos hw]
        have e2 : treeOf (.two w a b) (row ++ [r]) = .n2 (cellOf (.two w a b) (row ++ [r])) (runT a (row ++ [r])) (runT b (row ++ [r])) := by unfold treeOf; dsimp only; rw [if_pos hw]
        rw [e1, e2, hear_two hw, run_snoc, run_snoc, ha', hb']
        have e3 : mn (.two w a b) (row ++ [r]) = cmpF w (mn a (row ++ [r])) (mn b (row ++ [r])) := by rw [mn, if_neg snoc_ne, if_pos hw]; rfl
        congr 1
        unfold cellOf ownC
        rw [e3]
        simp [hw]
      · have e1 : treeOf (.two w a b) row = .n2 (cellOf (.two w a b) row) (runT a row) (if w = "since" then runT b (row.drop (Mn.start (ans (mn a) row) 0 0)) else runT b (pickF row (ans (mn a) row))) := by unfold treeOf; dsimp only; rw [if_neg hw]
        have e2 : treeOf (.two w a b) (row ++ [r]) = .n2 (cellOf (.two w a b) (row ++ [r])) (runT a (row ++ [r])) (if w = "since" then runT b ((row ++ [r]).drop (Mn.start (ans (mn a) (row ++ [r])) 0 0)) else runT b (pickF (row ++ [r]) (ans (mn a) (row ++ [r])))) := by unfold treeOf; dsimp only; rw [if_neg hw]
        obtain ⟨V, hV⟩ : ∃ V, V = (if w = "since" then runT b ((row ++ [r]).drop (Mn.start (ans (mn a) (row ++ [r])) 0 0)) else runT b (pickF (row ++ [r]) (ans (mn a) (row ++ [r])))) := ⟨_, rfl⟩
        have hV1 : (if w = "since" then (if (hearT r.1 r.2 a (runT a row)).hd.1.isSome then firstT b else hearT r.1 r.2 b (if w = "since" then runT b (row.drop (Mn.start (ans (mn a) row) 0 0)) else runT b (pickF row (ans (mn a) row)))) else (if (hearT r.1 r.2 a (runT a row)).hd.1.isSome then hearT r.1 r.2 b (if w = "since" then runT b (row.drop (Mn.start (ans (mn a) row) 0 0)) else runT b (pickF row (ans (mn a) row))) else (if w = "since" then runT b (row.drop (Mn.start (ans (mn a) row) 0 0)) else runT b (pickF row (ans (mn a) row))))) = V := by
          rw [hV, ha', ans_snoc]
          have hs := start_le (ans (mn a) row) 0 0 (Nat.le_refl _)
          rw [ans_len, Nat.zero_add] at hs
          by_cases q : w = "since"
          · rw [if_pos q, if_pos q, if_pos q, start_snoc, ans_len]
            by_cases h : (mn a (row ++ [r])).isSome
            · rw [if_pos h, if_pos h, List.drop_of_length_le (by rw [List.length_append, List.length_singleton]; omega), run_nil]
            · rw [if_neg h, if_neg h, List.drop_append_of_le_length hs, run_snoc]
          · rw [if_neg q, if_neg q, if_neg q, pick_snoc (by rw [ans_len])]
            by_cases h : (mn a (row ++ [r])).isSome
            · rw [if_pos h, if_pos h, run_snoc]
            · rw [if_neg h, if_neg h, List.append_nil]
        have hV2 : V.hd.1 = mn (.two w a b) (row ++ [r]) := by
          rw [hV, mn, if_neg snoc_ne, if_neg hw]
          have hw' : w = "since" ∨ w = "among" := by
            rcases hq.1 with h | h | h | h
            · exact absurd (Or.inl h) hw
            · exact absurd (Or.inr h) hw
            · exact .inl h
            · exact .inr h
          rcases hw' with rfl | rfl
          · have n2 : ¬ ("since" : Str) = "among" := by simp
            rw [if_pos rfl, if_neg n2]
            exact hd b hq.2.2 _ fun r' hr => hf r' (List.mem_of_mem_drop hr)
          · have n2 : ¬ ("among" : Str) = "since" := by simp
            rw [if_neg n2, if_pos rfl]
            refine hd b hq.2.2 _ fun r' hr => ?_
            obtain ⟨p, hp, rfl⟩ := List.mem_map.mp hr
            exact hf p.1 (List.of_mem_zip (List.mem_filter.mp hp).1).1
        rw [e1, e2, ← hV, hearT]
        rw [if_neg hw, hV1, run_snoc]
        congr 1
        unfold cellOf ownC
        rw [← hV2]
        simp [hw]
    | iff a b d =>
      have ha' := hd a hq.1 (row ++ [r]) hf
      have hb' := hd b hq.2.1 (row ++ [r]) hf
      have hc' := hd d hq.2.2 (row ++ [r]) hf
      rw [run_snoc] at ha' hb' hc'
      show CT.n3 (ownC r.1 r.2 (.iff a b d) (cellOf (.iff a b d) row) [(hearT r.1 r.2 a (runT a row)).hd.1, (hearT r.1 r.2 b (runT b row)).hd.1, (hearT r.1 r.2 d (runT d row)).hd.1] [(runT a row).hd.1, (runT b row).hd.1, (runT d row).hd.1]) (hearT r.1 r.2 a (runT a row)) (hearT r.1 r.2 b (runT b row)) (hearT r.1 r.2 d (runT d row)) = CT.n3 (cellOf (.iff a b d) (row ++ [r])) (runT a (row ++ [r])) (runT b (row ++ [r])) (runT d (row ++ [r]))
      rw [run_snoc, run_snoc, run_snoc, ha', hb', hc']
      have e : mn (.iff a b d) (row ++ [r]) = if (mn a (row ++ [r])).isNone then mn d (row ++ [r]) else mn b (row ++ [r]) := by
        rw [mn, if_neg snoc_ne]
        cases mn a (row ++ [r]) <;> rfl
      congr 1
      unfold cellOf
      rw [e]
      rfl
    | num w j a =>
      have ha' := hd a hq.2 (row ++ [r]) hf
      rw [run_snoc] at ha'
      show CT.n1 (ownC r.1 r.2 (.num w j a) (cellOf (.num w j a) row) [(hearT r.1 r.2 a (runT a row)).hd.1] [(runT a row).hd.1]) (hearT r.1 r.2 a (runT a row)) = CT.n1 (cellOf (.num w j a) (row ++ [r])) (runT a (row ++ [r]))
      rw [run_snoc, ha']
      congr 1
      by_cases q : w = "times"
      · subst q
        have e : mn (.num "times" j a) (row ++ [r]) = if j ≤ fmc (ans (mn a) (row ++ [r])) then some r.2 else none := by rw [mn_times snoc_ne la rfl]; rfl
        simp only [cellOf, ownC, List.getD_cons_zero, ↓reduceIte]
        rw [e, ans_snoc, fmc_snoc]
        by_cases h : (mn a (row ++ [r])).isSome
        · rw [if_pos h, if_pos h]
          have e1 : min (min (fmc (ans (mn a) row)) j + 1) j = min (fmc (ans (mn a) row) + 1) j := by omega
          rw [e1]
          by_cases h2 : j ≤ fmc (ans (mn a) row) + 1
          · rw [if_pos h2, if_pos (by omega)]
          · rw [if_neg h2, if_neg (by omega)]
        · rw [if_neg h, if_neg h]
          by_cases h2 : j ≤ fmc (ans (mn a) row) + 0
          · rw [if_pos h2, if_pos (by omega)]
            rfl
          · rw [if_neg h2, if_neg (by omega)]
            rfl
      · have hw : (w = "great" ∨ w = "least") ∧ 1 ≤ j := by
          rcases hq.1 with h | h
          · exact ⟨h.1, h.2.1⟩
          · exact absurd h.1 q
        have e := mn_num (j := j) (a := a) (row := row ++ [r]) snoc_ne hw.1
        obtain ⟨G, _⟩ := amongst_good (ans (mn a) row) [] (ans_fr hf') good_nil
        have fo : ∀ z, mn a (row ++ [r]) = some z → Fr z := mn_fr a (row ++ [r]) hf
        simp only [cellOf, ownC, List.getD_cons_zero, if_neg q]
        rw [e, ans_snoc, amongst_snoc]
        have ei : trim w j (insO (mn a (row ++ [r])) (trim w j (amongst (ans (mn a) row) []))) = trim w j (amongst [mn a (row ++ [r])] (amongst (ans (mn a) row) [])) := by
          cases h : mn a (row ++ [r]) with
          | none =>
            show trim w j (trim w j (amongst (ans (mn a) row) [])) = trim w j (amongst (ans (mn a) row) [])
            generalize amongst (ans (mn a) row) [] = A
            unfold trim
            split
            · rw [List.drop_drop]
              congr 1
              rw [List.length_drop]
              omega
            · rw [List.take_take, Nat.min_self]
          | some z =>
            show trim w j (ins z (trim w j _)) = trim w j (ins z _)
            exact trim_ins (fo z h) G
        rw [ei, told_ord hw.2]
    | circ i j a =>
      have ha' := hd a hq.2.2 (row ++ [r]) hf
      rw [run_snoc] at ha'
      show CT.n1 (ownC r.1 r.2 (.circ i j a) (cellOf (.circ i j a) row) [(hearT r.1 r.2 a (runT a row)).hd.1] [(runT a row).hd.1]) (hearT r.1 r.2 a (runT a row)) = CT.n1 (cellOf (.circ i j a) (row ++ [r])) (runT a (row ++ [r]))
      rw [run_snoc, ha']
      congr 1
      have e : mn (.circ i j a) (row ++ [r]) = if fmc (ans (mn a) (row ++ [r])) % i = j then some r.2 else none := by
        rw [mn, if_neg snoc_ne, la]
        rfl
      simp only [cellOf, ownC, List.getD_cons_zero]
      rw [e, ans_snoc, fmc_snoc]
      by_cases h : (mn a (row ++ [r])).isSome
      · rw [if_pos h, if_pos h]
        have e1 : (fmc (ans (mn a) row) % i + 1) % i = (fmc (ans (mn a) row) + 1) % i := by rw [Nat.mod_add_mod]
        rw [e1]
      · rw [if_neg h, if_neg h]
        rfl
theorem run_hd {m : Nat} {q : Q} (hq : q.ok m) {row : List Rec} (hf : ∀ r ∈ row, Fr r.2) : (runT q row).hd.1 = mn q row := by
  rw [run_tree m q hq row.length row rfl hf, tree_hd]
  rfl
/-- the run under an order's map -/
theorem run_map {A : List Num} {f : Num → Num} (I : Iso A f) {m : Nat} {q : Q} (hq : q.ok m) (hA : ∀ x ∈ A, Fr x) (hfA : ∀ x ∈ A, Fr (f x)) (row : List Rec) : (∀ r ∈ row, r.2 ∈ A) → Fits q (runT q row) ∧ InT A (runT q row) ∧ runT q (row.map (fR f)) = mapT f (runT q row) ∧ Fits q (mapT f (runT q row)) := by
  have go : ∀ (n : Nat) (row : List Rec), row.length = n → (∀ r ∈ row, r.2 ∈ A) → Fits q (runT q row) ∧ InT A (runT q row) ∧ runT q (row.map (fR f)) = mapT f (runT q row) ∧ Fits q (mapT f (runT q row)) := by
    intro n
    induction n with
    | zero =>
      intro row hn _
      have : row = [] := List.eq_nil_of_length_eq_zero hn
      subst this
      have g := first_in (A := A) (f := f) q
      have ff := first_fits m q hq
      exact ⟨ff, g.1, g.2.symm, by show Fits q (mapT f (firstT q)); rw [g.2]; exact ff⟩
    | succ n ih =>
      intro row hn h
      have ne : row ≠ [] := fun e => by rw [e] at hn; cases hn
      obtain ⟨row', r, rfl⟩ : ∃ row' r, row = row' ++ [r] := ⟨row.dropLast, row.getLast ne, (List.dropLast_concat_getLast ne).symm⟩
      have hr : r.2 ∈ A := h r (List.mem_append_right _ List.mem_cons_self)
      obtain ⟨i1, i2, i3, i4⟩ := ih row' (by rw [List.length_append] at hn; simpa using hn) fun r hr => h r (List.mem_append_left _ hr)
      obtain ⟨g1, g2⟩ := hear_map I (nm := r.1) hr m q hq _ i1 i2
      have k1 := hear_fits (nm := r.1) (hA _ hr) m q hq _ i1
      have k2 := hear_fits (nm := r.1) (hfA _ hr) m q hq _ i4
      rw [g2] at k2
      rw [List.map_append, List.map_singleton, run_snoc, run_snoc, i3]
      exact ⟨k1, g1, g2, k2⟩
  exact go row.length row rfl
end My

set_option Elab.async false
set_option linter.all false
set_option maxRecDepth 100000
namespace My
open PySem L2 KR Mn
/-! ### the law -/
abbrev GU : Gd := gtp 2 (gsc (gnm 11) (gsc (gnm 12) gsn))
abbrev BU (cc : Nat → Cl) : S := sset 5 (ocall (cc 28) 2 (cval (getv 5) (cval (getv 12) (KR.ret []))))
theorem ins_mem {x : Num} {L : List Num} (hx : Fr x) (G : Good L) : x ∈ ins x L ∧ ∀ y ∈ L, y ∈ ins x L := by
  unfold ins
  by_cases q : x ∈ L
  · rw [if_pos q]; exact ⟨q, fun y hy => hy⟩
  · rw [if_neg q]
    refine ⟨List.mem_append_right _ List.mem_cons_self, fun y hy => ?_⟩
    by_cases p : lt y x
    · exact List.mem_append_left _ (List.mem_filter.mpr ⟨hy, by simpa using p⟩)
    · refine List.mem_append_right _ (List.mem_cons_of_mem _ (List.mem_filter.mpr ⟨hy, ?_⟩))
      have ne : ¬ x = y := fun e => q (by rw [e]; exact hy)
      simpa using lt_tri (G.f y hy) hx ne p
def plV (v : Option RV) : Prop := v = none ∨ ∃ d, v = some (.val d)
theorem among_turn {cc : Nat → Cl} (hw : WithOk cc) {s st nm q R : RV} {r : Rec} {L : List Num} (G : Good L) (hr : Fr r.2) (hl : L.length ≤ 1000) {v12 : Option RV} {v11 : Option RV} :
    BU cc [] [some s, some st, some nm, some q, some R, some (OT L), none, none, none, none, none, v11, some (W r.2), none] = some (.ok .nx, [some s, some st, some nm, some q, some R, some (OT (ins r.2 L)), none, none, none, none, none, v11, some (W r.2), none]) := by
  have e := hw r.2 L hr G hl
  simp [takeA, putA, e]
theorem among_for {cc : Nat → Cl} (hw : WithOk cc) {s st nm q R : RV} : ∀ (row : List Rec) (L : List Num) (v11 v12 : Option RV), plV v11 → plV v12 → Good L → (∀ r ∈ row, Fr r.2) → L.length + row.length ≤ 500 →
    ∃ (L' : List Num) (v11' v12' : Option RV), plV v11' ∧ plV v12' ∧ Good L' ∧ (∀ x ∈ L, x ∈ L') ∧ (∀ r ∈ row, r.2 ∈ L') ∧ L'.length ≤ L.length + row.length ∧
      forL GU (BU cc) (row.map rc) [] [some s, some st, some nm, some q, some R, some (OT L), none, none, none, none, none, v11, v12, none] = some (.ok .nx, [some s, some st, some nm, some q, some R, some (OT L'), none, none, none, none, none, v11', v12', none])
  | [], L, v11, v12, p1, p2, G, _, _ => ⟨L, v11, v12, p1, p2, G, fun x hx => hx, (fun r hr => by cases hr), Nat.le_refl _, rfl⟩
  | r :: row, L, v11, v12, p1, p2, G, hf, hl => by
    rw [List.length_cons] at hl
    have hr := hf r List.mem_cons_self
    have il := ins_len (x := r.2) (l := L)
    obtain ⟨i1, i2⟩ := ins_mem hr G
    obtain ⟨L', v11', v12', a1, a2, a3, a4, a5, a6, e⟩ := among_for hw (s := s) (st := st) (nm := nm) (q := q) (R := R) row (ins r.2 L) (some (.val (.str r.1))) (some (W r.2)) (.inr ⟨_, rfl⟩) (.inr ⟨_, rfl⟩) (ins_good hr G) (fun r hr => hf r (List.mem_cons_of_mem _ hr)) (by omega)
    refine ⟨L', v11', v12', a1, a2, a3, fun x hx => a4 x (i2 x hx), fun r' hr' => ?_, by rw [List.length_cons]; omega, ?_⟩
    · rcases List.mem_cons.mp hr' with z | z
      · rw [z]; exact a4 _ i1
      · exact a5 r' z
    · have et := among_turn hw (s := s) (st := st) (nm := nm) (q := q) (R := R) (v11 := some (.val (.str r.1))) (v12 := none) G hr (by omega)
      rw [List.map_cons, forL_nx (ρ1 := [some s, some st, some nm, some q, some R, some (OT L), none, none, none, none, none, some (.val (.str r.1)), some (W r.2), none]) (by unfold rc; simp) et]
      exact e
abbrev ET (cc : Nat → Cl) : M D := dtup (acons (getv 11) (acons (frz (ocall (cc 34) 3 (cval (getv 12) (clend 5 (cval (getv 6) (KR.ret [])))))) (KR.ret [])))
theorem twin_compL {cc : Nat → Cl} {A B : List Num} (hr : RepOk cc A B) {s st nm q R : RV} : ∀ (row : List Rec) (acc : List D), (∀ r ∈ row, r.2 ∈ A) →
    compL GU (KR.ret true) (ET cc) [11, 12] 14 (row.map rc) acc [some s, some st, some nm, some q, some R, some (OT A), some (T B), none, none, none, none, none, none, none] =
      some (acc ++ (row.map (fR (toB A B))).map rc, [some s, some st, some nm, some q, some R, some (OT A), some (T B), none, none, none, none, none, none, none])
  | [], acc, _ => by simp [compL]
  | r :: row, acc, h => by
    have ih := twin_compL hr (s := s) (st := st) (nm := nm) (q := q) (R := R) row (acc ++ [rc (fR (toB A B) r)]) fun r hr => h r (List.mem_cons_of_mem _ hr)
    have e := hr (some r.2) (fun x hx => by cases hx; exact h r List.mem_cons_self)
    rw [opt_some, show Option.map (toB A B) (some r.2) = some (toB A B r.2) from rfl, opt_some] at e
    rw [List.map_cons, List.map_cons, List.map_cons, compL]
    have ho10 : 11 ∉ oth 14 [11, 12] := by decide
    have ho8 : 12 ∉ oth 14 [11, 12] := by decide
    have hg : GU (rc r) (oth 14 [11, 12]) [some s, some st, some nm, some q, some R, some (OT A), some (T B), none, none, none, none, none, none, none] = some [some s, some st, some nm, some q, some R, some (OT A), some (T B), none, none, none, none, some (.val (.str r.1)), some (W r.2), none] := by
      unfold rc
      simp [ho10, ho8]
    rw [hg]
    dsimp only
    rw [if_pos (by rfl)]
    have ht : (KR.ret true : M Bool) [some s, some st, some nm, some q, some R, some (OT A), some (T B), none, none, none, none, some (.val (.str r.1)), some (W r.2), none] = some (.ok true, [some s, some st, some nm, some q, some R, some (OT A), some (T B), none, none, none, none, some (.val (.str r.1)), some (W r.2), none]) := rfl
    rw [ht]
    dsimp only
    have he : ET cc [some s, some st, some nm, some q, some R, some (OT A), some (T B), none, none, none, none, some (.val (.str r.1)), some (W r.2), none] = some (.ok (rc (fR (toB A B) r)), [some s, some st, some nm, some q, some R, some (OT A), some (T B), none, none, none, none, some (.val (.str r.1)), some (W r.2), none]) := by
      unfold rc fR
      simp [takeA, putA, e]
    rw [he]
    dsimp only
    rw [if_pos (by rfl)]
    have hw : wipeE [some s, some st, some nm, some q, some R, some (OT A), some (T B), none, none, none, none, some (.val (.str r.1)), some (W r.2), none] [11, 12] = [some s, some st, some nm, some q, some R, some (OT A), some (T B), none, none, none, none, none, none, none] := rfl
    rw [hw, ih, List.append_assoc]
    rfl
theorem twin_comp {cc : Nat → Cl} {A B : List Num} (hr : RepOk cc A B) {s st nm q : RV} {row : List Rec} (h : ∀ r ∈ row, r.2 ∈ A) (hl : row.length ≤ 1000) {v11 v12 : Option RV} (p1 : plV v11) (p2 : plV v12) :
    lcomp [11, 12] (its (getv 4)) GU (KR.ret true) (ET cc) [some s, some st, some nm, some q, some (RW row), some (OT A), some (T B), none, none, none, none, v11, v12, none] =
      some (.ok (.olst ((row.map (fR (toB A B))).map rc)), [some s, some st, some nm, some q, some (RW row), some (OT A), some (T B), none, none, none, none, v11, v12, none]) := by
  have e := twin_compL hr (s := s) (st := st) (nm := nm) (q := q) (R := RW row) row [] h
  have hi : its (getv 4) [some s, some st, some nm, some q, some (RW row), some (OT A), some (T B), none, none, none, none, v11, v12, none] = some (.ok (row.map rc), [some s, some st, some nm, some q, some (RW row), some (OT A), some (T B), none, none, none, none, v11, v12, none]) := by simp
  rw [lcomp_ap, bnd_ap, hi]
  dsimp only
  have hk : okW [some s, some st, some nm, some q, some (RW row), some (OT A), some (T B), none, none, none, none, v11, v12, none] [11, 12] = true := by
    rcases p1 with rfl | ⟨d, rfl⟩ <;> rcases p2 with rfl | ⟨d', rfl⟩ <;> rfl
  rw [if_pos ⟨hk, by rw [List.length_map, size_line]; omega⟩]
  have hw : wipeE [some s, some st, some nm, some q, some (RW row), some (OT A), some (T B), none, none, none, none, v11, v12, none] [11, 12] = [some s, some st, some nm, some q, some (RW row), some (OT A), some (T B), none, none, none, none, none, none, none] := rfl
  rw [hw]
  show (match compL GU (KR.ret true) (ET cc) [11, 12] 14 (row.map rc) [] _ with | some (ys, ρ2) => _ | none => _) = _
  rw [e]
  rfl
end My

set_option Elab.async false
set_option linter.all false
set_option maxRecDepth 100000
namespace My
open PySem L2 KR Mn
abbrev BL8 (cc : Nat → Cl) : S := sset 8 (ocall (cc 19) 4 (cval (getv 3) (cval (getv 8) (cval (KR.bin gix (KR.bin gix (getv 4) (getv 10)) (KR.ret (.int 0))) (cval (KR.bin gix (KR.bin gix (getv 4) (getv 10)) (KR.ret (.int 1))) (KR.ret []))))))
abbrev BL9 (cc : Nat → Cl) : S := sset 9 (ocall (cc 19) 4 (cval (getv 3) (cval (getv 9) (cval (KR.bin gix (KR.bin gix (getv 7) (getv 10)) (KR.ret (.int 0))) (cval (KR.bin gix (KR.bin gix (getv 7) (getv 10)) (KR.ret (.int 1))) (KR.ret []))))))
abbrev BL13 (cc : Nat → Cl) : S := sset 13 (ocall (cc 34) 3 (cval (frz (ocall (cc 8) 2 (cval (getv 3) (cval (cut (getv 4) (KR.ret none) (par (KR.bin gadd (getv 10) (KR.ret (.int 1))))) (KR.ret []))))) (clend 5 (cval (getv 6) (KR.ret [])))))
abbrev BLe1 (cc : Nat → Cl) : S := sif (tor (tnot (tstV (frz (ocall (cc 22) 2 (cval (frz (ocall (cc 8) 2 (cval (getv 3) (cval (cut (getv 7) (KR.ret none) (par (KR.bin gadd (getv 10) (KR.ret (.int 1))))) (KR.ret []))))) (cval (getv 13) (KR.ret []))))))) (tnot (tstV (frz (ocall (cc 22) 2 (cval (KR.bin gix (KR.bin gix (getv 9) (KR.ret (.int 0))) (KR.ret (.int 0))) (cval (getv 13) (KR.ret [])))))))) (sret (val (KR.ret (.bl false)))) skip
abbrev BLe2 (cc : Nat → Cl) : S := sif (tnot (tstV (frz (ocall (cc 35) 4 (cval (getv 8) (cval (getv 9) (clend 5 (cval (getv 6) (KR.ret []))))))))) (sret (val (KR.ret (.bl false)))) skip
abbrev BLz (cc : Nat → Cl) : S := seq (BL8 cc) (seq (BL9 cc) (seq (BL13 cc) (seq (BLe1 cc) (BLe2 cc))))
section
variable {cc : Nat → Cl} {s st nm : RV} {q n X n' X' Rk Tk d0 p : D} {L L' M M' Rl Tl Y Y' : List D} {o : Option Num} {A B : List Num} {k : Int} {c7 c8 c9 : RV} {v11 v12 v13 : Option RV}
theorem t8 (h8 : isL c8 L) (er : atI Rl k = some Rk) (e0 : gix Rk (.int 0) = some n) (e1 : gix Rk (.int 1) = some X) (e : cc 19 [.val q, .val (.lst L), .val n, .val X] = some (.ok (.val (.lst L')), [.val q, .val (.lst L), .val n, .val X])) :
    BL8 cc [] [some s, some st, some nm, some (.val q), some (.val (.lst Rl)), some (OT A), some (T B), some c7, some c8, some c9, some (KR.I k), v11, v12, v13] = some (.ok .nx, [some s, some st, some nm, some (.val q), some (.val (.lst Rl)), some (OT A), some (T B), some c7, some (.val (.lst L')), some c9, some (KR.I k), v11, v12, v13]) := by
  rcases h8 with rfl | rfl <;> simp [er, e0, e1, takeA, putA, e]
theorem t9 (h7 : isL c7 Tl) (h9 : isL c9 M) (er : atI Tl k = some Tk) (e0 : gix Tk (.int 0) = some n') (e1 : gix Tk (.int 1) = some X') (e : cc 19 [.val q, .val (.lst M), .val n', .val X'] = some (.ok (.val (.lst M')), [.val q, .val (.lst M), .val n', .val X'])) :
    BL9 cc [] [some s, some st, some nm, some (.val q), some (.val (.lst Rl)), some (OT A), some (T B), some c7, some c8, some c9, some (KR.I k), v11, v12, v13] = some (.ok .nx, [some s, some st, some nm, some (.val q), some (.val (.lst Rl)), some (OT A), some (T B), some (.val (.lst Tl)), some c8, some (.val (.lst M')), some (KR.I k), v11, v12, v13]) := by
  rcases h7 with rfl | rfl <;> rcases h9 with rfl | rfl <;> simp [er, e0, e1, takeA, putA, e]
theorem t13 (es : gsl none (some (k + 1)) (.lst Rl) = some (.lst Y)) (em : cc 8 [.val q, .val (.lst Y)] = some (.ok (.val (opt o)), [.val q, .val (.lst Y)])) (e : cc 34 [.val (opt o), OT A, T B] = some (.ok (.val p), [.val (opt o), OT A, T B])) :
    BL13 cc [] [some s, some st, some nm, some (.val q), some (.val (.lst Rl)), some (OT A), some (T B), some c7, some c8, some c9, some (KR.I k), v11, v12, v13] = some (.ok .nx, [some s, some st, some nm, some (.val q), some (.val (.lst Rl)), some (OT A), some (T B), some c7, some c8, some c9, some (KR.I k), v11, v12, some (.val p)]) := by
  simp [takeA, putA, asI, es, em, e]
theorem te1 (es : gsl none (some (k + 1)) (.lst Tl) = some (.lst Y)) (em : cc 8 [.val q, .val (.lst Y)] = some (.ok (.val p), [.val q, .val (.lst Y)])) (e : cc 22 [.val p, .val p] = some (.ok (.val (.bl true)), [.val p, .val p]))
    (e0 : atI M' 0 = some d0) (e1 : gix d0 (.int 0) = some p) :
    BLe1 cc [] [some s, some st, some nm, some (.val q), some (.val (.lst Rl)), some (OT A), some (T B), some (.val (.lst Tl)), some c8, some (.val (.lst M')), some (KR.I k), v11, v12, some (.val p)] = some (.ok .nx, [some s, some st, some nm, some (.val q), some (.val (.lst Rl)), some (OT A), some (T B), some (.val (.lst Tl)), some c8, some (.val (.lst M')), some (KR.I k), v11, v12, some (.val p)]) := by
  simp [takeA, putA, asI, es, em, e, e0, e1]
theorem te2 (e : cc 35 [.val (.lst L'), .val (.lst M'), OT A, T B] = some (.ok (.val (.bl true)), [.val (.lst L'), .val (.lst M'), OT A, T B])) :
    BLe2 cc [] [some s, some st, some nm, some (.val q), some (.val (.lst Rl)), some (OT A), some (T B), some c7, some (.val (.lst L')), some (.val (.lst M')), some (KR.I k), v11, v12, v13] = some (.ok .nx, [some s, some st, some nm, some (.val q), some (.val (.lst Rl)), some (OT A), some (T B), some c7, some (.val (.lst L')), some (.val (.lst M')), some (KR.I k), v11, v12, v13]) := by
  simp [takeA, putA, e]
end
end My

set_option Elab.async false
set_option linter.all false
set_option maxRecDepth 100000
namespace My
open PySem L2 KR Mn
theorem opt_0 {n : Nat} {t : CT} : gix (cd t.hd) (.int 0) = some (opt t.hd.1) := rfl
theorem law_turn {n m : Nat} {q : Q} (hq : q.ok m) (hm : m ≤ 11) (hn : 40 ≤ n) {s st nm : RV} {row : List Rec} (hl : row.length ≤ 20) {A B : List Num} (GA : Good A) (GB : Good B) (hB : B.length = A.length) (hA : ∀ r ∈ row, r.2 ∈ A)
    {k : Nat} (hk : k < row.length) {c7 c8 c9 : RV} (h7 : isL c7 ((row.map (fR (toB A B))).map rc)) (h8 : isL c8 ((runT q (row.take k)).flat.map cd)) (h9 : isL c9 ((mapT (toB A B) (runT q (row.take k))).flat.map cd)) {v11 v12 v13 : Option RV} :
    ∃ c7' c8' c9' v13', isL c7' ((row.map (fR (toB A B))).map rc) ∧ isL c8' ((runT q (row.take (k + 1))).flat.map cd) ∧ isL c9' ((mapT (toB A B) (runT q (row.take (k + 1)))).flat.map cd) ∧
      BLz (call n) [] [some s, some st, some nm, some (.val q.toD), some (RW row), some (OT A), some (T B), some c7, some c8, some c9, some (KR.I k), v11, v12, v13] =
        some (.ok .nx, [some s, some st, some nm, some (.val q.toD), some (RW row), some (OT A), some (T B), some c7', some c8', some c9', some (KR.I k), v11, v12, v13']) := by
  obtain ⟨f, hf⟩ : ∃ f, f = toB A B := ⟨_, rfl⟩
  have I := iso_toB GA GB hB
  have fA : ∀ x ∈ A, Fr x := GA.f
  have fB : ∀ x ∈ A, Fr (toB A B x) := fun x hx => toB_fr GB hB hx
  have hx : row[k].2 ∈ A := hA _ (List.getElem_mem _)
  have hAk : ∀ r ∈ row.take k, r.2 ∈ A := fun r hr => hA r (List.mem_of_mem_take hr)
  have hAk1 : ∀ r ∈ row.take (k + 1), r.2 ∈ A := fun r hr => hA r (List.mem_of_mem_take hr)
  obtain ⟨i1, i2, i3, i4⟩ := run_map I hq fA fB (row.take k) hAk
  obtain ⟨j1, j2, j3, j4⟩ := run_map I hq fA fB (row.take (k + 1)) hAk1
  have er : atI (row.map rc) ((k : Nat) : Int) = some (rc row[k]) := by rw [KR.atI_nat (by rw [List.length_map]; exact hk)]; simp
  have er' : atI ((row.map (fR (toB A B))).map rc) ((k : Nat) : Int) = some (rc (fR (toB A B) row[k])) := by rw [KR.atI_nat (by rw [List.length_map, List.length_map]; exact hk)]; simp
  have et : hearT row[k].1 row[k].2 q (runT q (row.take k)) = runT q (row.take (k + 1)) := by rw [take_snoc hk, run_snoc]
  have e8 := hear_ok (nm := row[k].1) (fA _ hx) m q hq hm (n - (2 * m + 6)) (runT q (row.take k)) i1
  rw [show 2 * m + 6 + (n - (2 * m + 6)) = n by omega, et] at e8
  have e9 := hear_ok (nm := row[k].1) (fB _ hx) m q hq hm (n - (2 * m + 6)) (mapT (toB A B) (runT q (row.take k))) i4
  rw [show 2 * m + 6 + (n - (2 * m + 6)) = n by omega, (hear_map I (nm := row[k].1) hx m q hq _ i1 i2).2, et] at e9
  have es := take_sl (ds := row.map rc) (c := k) (by rw [List.length_map]; exact hk)
  rw [← List.map_take] at es
  have es' := take_sl (ds := (row.map (fR (toB A B))).map rc) (c := k) (by rw [List.length_map, List.length_map]; exact hk)
  rw [← List.map_take, ← List.map_take] at es'
  have em := meaning_ok m q hq (n - (3 * m + 1)) (row.take (k + 1)) (by rw [List.length_take]; omega) fun r hr => fA _ (hAk1 r hr)
  rw [show 3 * m + 1 + (n - (3 * m + 1)) = n by omega] at em
  have em' := meaning_ok m q hq (n - (3 * m + 1)) ((row.take (k + 1)).map (fR (toB A B))) (by rw [List.length_map, List.length_take]; omega) fun r hr => by
    obtain ⟨r', h', rfl⟩ := List.mem_map.mp hr
    exact fB _ (hAk1 r' h')
  rw [show 3 * m + 1 + (n - (3 * m + 1)) = n by omega, mn_map I q _ hAk1] at em'
  have e34 := replaced_ok (k := n - 1) (A := A) (B := B) (o := mn q (row.take (k + 1))) (mn_in (P := (· ∈ A)) q _ hAk1) hB
  have e22 := equal_opt (n := n - 2) (o := (mn q (row.take (k + 1))).map (toB A B))
  rw [show n - 1 + 1 = n by omega] at e34
  rw [show n - 2 + 2 = n by omega] at e22
  have eh : (mapT (toB A B) (runT q (row.take (k + 1)))).hd.1 = (mn q (row.take (k + 1))).map (toB A B) := by
    rw [mapT_hd]
    show (runT q (row.take (k + 1))).hd.1.map (toB A B) = _
    rw [run_hd hq fun r hr => fA _ (hAk1 r hr)]
  have a0 := flat_0 (t := mapT (toB A B) (runT q (row.take (k + 1))))
  have a1 : gix (cd (mapT (toB A B) (runT q (row.take (k + 1)))).hd) (.int 0) = some (opt ((mn q (row.take (k + 1))).map (toB A B))) := by rw [cd_0, eh]
  have hlen := fits_len hq hm j1
  have e35 := alike_ok (n := n - 5) (A := A) (B := B) hB (C := (runT q (row.take (k + 1))).flat) (by omega) fun c hc => ⟨InT.flat j2 c hc, by have := (fits_cells m q hq _ j1 c hc).l; omega⟩
  rw [show n - 5 + 5 = n by omega, ← mapT_flat] at e35
  refine ⟨.val (.lst ((row.map (fR (toB A B))).map rc)), .val (ls (runT q (row.take (k + 1)))), .val (ls (mapT (toB A B) (runT q (row.take (k + 1))))), some (.val (opt ((mn q (row.take (k + 1))).map (toB A B)))), .inr rfl, .inr rfl, .inr rfl, ?_⟩
  have z1 := t8 (s := s) (st := st) (nm := nm) (A := A) (B := B) (c7 := c7) (c9 := c9) (v11 := v11) (v12 := v12) (v13 := v13) h8 er rc_0 rc_1 e8
  have z2 := t9 (s := s) (st := st) (nm := nm) (A := A) (B := B) (Rl := row.map rc) (c8 := .val (ls (runT q (row.take (k + 1))))) (v11 := v11) (v12 := v12) (v13 := v13) h7 h9 er' rc_0 rc_1 e9
  have z3 := t13 (s := s) (st := st) (nm := nm) (c7 := .val (.lst ((row.map (fR (toB A B))).map rc))) (c8 := .val (ls (runT q (row.take (k + 1))))) (c9 := .val (ls (mapT (toB A B) (runT q (row.take (k + 1)))))) (v11 := v11) (v12 := v12) (v13 := v13) es em e34
  have z4 := te1 (s := s) (st := st) (nm := nm) (A := A) (B := B) (Rl := row.map rc) (c8 := .val (ls (runT q (row.take (k + 1))))) (v11 := v11) (v12 := v12) es' em' e22 a0 a1
  have z5 := te2 (s := s) (st := st) (nm := nm) (q := q.toD) (Rl := row.map rc) (k := (k : Int)) (c7 := .val (.lst ((row.map (fR (toB A B))).map rc))) (v11 := v11) (v12 := v12) (v13 := some (.val (opt ((mn q (row.take (k + 1))).map (toB A B))))) e35
  unfold BLz
  rw [seq_nx z1, seq_nx z2, seq_nx z3, seq_nx z4]
  exact z5
theorem law_for {n m : Nat} {q : Q} (hq : q.ok m) (hm : m ≤ 11) (hn : 40 ≤ n) {s st nm : RV} {row : List Rec} (hl : row.length ≤ 20) {A B : List Num} (GA : Good A) (GB : Good B) (hB : B.length = A.length) (hA : ∀ r ∈ row, r.2 ∈ A) {c7 c8 c9 : RV} {v11 v12 : Option RV}
    (h7 : isL c7 ((row.map (fR (toB A B))).map rc)) (h8 : isL c8 ((firstT q).flat.map cd)) (h9 : isL c9 ((firstT q).flat.map cd)) :
    ∃ c7' c8' c9' v10' v13', forL (gnm 10) (BLz (call n)) (ints' (upto row.length)) [] [some s, some st, some nm, some (.val q.toD), some (RW row), some (OT A), some (T B), some c7, some c8, some c9, none, v11, v12, none] =
      some (.ok .nx, [some s, some st, some nm, some (.val q.toD), some (RW row), some (OT A), some (T B), some c7', some c8', some c9', v10', v11, v12, v13']) := by
  have fi := (first_in (A := A) (f := toB A B) q).2
  obtain ⟨ρ', ⟨c7', c8', c9', v10, v13, _, _, _, rfl⟩, e⟩ := for_range (g := gnm 10) (b := BLz (call n)) (lk := []) (n := row.length) (ρ := [some s, some st, some nm, some (.val q.toD), some (RW row), some (OT A), some (T B), some c7, some c8, some c9, none, v11, v12, none])
    (P := fun k ρ => ∃ c7 c8 c9 v10 v13, isL c7 ((row.map (fR (toB A B))).map rc) ∧ isL c8 ((runT q (row.take k)).flat.map cd) ∧ isL c9 ((mapT (toB A B) (runT q (row.take k))).flat.map cd) ∧
      ρ = [some s, some st, some nm, some (.val q.toD), some (RW row), some (OT A), some (T B), some c7, some c8, some c9, v10, v11, v12, v13])
    (fun k ρ hk ⟨c7, c8, c9, v10, v13, i7, i8, i9, hρ⟩ => by
      subst hρ
      obtain ⟨c7', c8', c9', v13', a7, a8, a9, et⟩ := law_turn (n := n) hq hm hn (s := s) (st := st) (nm := nm) hl GA GB hB hA hk i7 i8 i9 (v11 := v11) (v12 := v12) (v13 := v13)
      refine ⟨[some s, some st, some nm, some (.val q.toD), some (RW row), some (OT A), some (T B), some c7, some c8, some c9, some (KR.I (k : Nat)), v11, v12, v13], _, ?_, et, c7', c8', c9', _, v13', a7, a8, a9, rfl⟩
      simp)
    ⟨c7, c8, c9, none, none, h7, by rw [List.take_zero]; exact h8, by rw [List.take_zero]; show isL c9 ((mapT (toB A B) (firstT q)).flat.map cd); rw [fi]; exact h9, rfl⟩
  exact ⟨c7', c8', c9', v10, v13, e⟩
end My

set_option Elab.async false
set_option linter.all false
set_option maxRecDepth 100000
namespace My
open PySem L2 KR Mn
theorem b36_eq (cc : Nat → Cl) : b36 cc = (seq (sset 1 (dlst (acons (frz (ocall (cc 20) 1 (cval (getv 0) (KR.ret [])))) (acons (KR.ret (.int 0)) (KR.ret [])))))
  (seq (sset 2 (ocall (cc 29) 1 (clend 1 (KR.ret []))))
  (seq (sset 3 (ocall (cc 31) 3 (clend 1 (cval (getv 2) (cval (KR.bin gadd (KR.ret (.int 1)) (frz (ocall (cc 23) 2 (clend 1 (cval (KR.ret (.int 9)) (KR.ret [])))))) (KR.ret []))))))
  (seq (sset 4 (ocall (cc 32) 3 (clend 1 (cval (getv 2) (cval (KR.ret (.int 9)) (KR.ret []))))))
  (seq (sset 5 (nice (ntup (KR.ret []))))
  (seq (sfor GU (its (getv 4)) (BU cc))
  (seq (sset 6 (ocall (cc 33) 2 (clend 1 (cval (getv 5) (KR.ret [])))))
  (seq (sset 7 (lcomp [11, 12] (its (getv 4)) GU (KR.ret true) (ET cc)))
  (seq (sset 8 (ocall (cc 11) 1 (cval (getv 3) (KR.ret []))))
  (seq (sset 9 (ocall (cc 11) 1 (cval (getv 3) (KR.ret []))))
  (seq (sfor (gnm 10) (icl rng1 (acons (cal (f1 glen) (acons (getv 4) (KR.ret []))) (KR.ret []))) (BLz cc))
  (sret (val (KR.ret (.bl true))))))))))))))) := rfl
theorem law_end {cc : Nat → Cl} {BUv B : S} {G : Gd} {Zr : M (List D)} {Zt : M RV} {sc nm q : D} {t : List Int} {k1 k2 k3 k4 k5 m : Int} {Rl L U Tw : List D} {A Bl : List Num} {c7 c8 c9 : RV} {v10 v11 v12 v13 : Option RV}
    (e1 : cc 20 [.val sc] = some (.ok (.val (TL t)), [.val sc])) (e2 : cc 29 [St t 0] = some (.ok (.val nm), [St t k1])) (e3 : cc 23 [St t k1, KR.I 9] = some (.ok (KR.I m), [St t k2, KR.I 9]))
    (e4 : cc 31 [St t k2, .val nm, KR.I (1 + m)] = some (.ok (.val q), [St t k3, .val nm, KR.I (1 + m)])) (e8 : cc 32 [St t k3, .val nm, KR.I 9] = some (.ok (.val (.lst Rl)), [St t k4, .val nm, KR.I 9]))
    (eu : forL G BUv Rl [] [some (.val sc), some (St t k4), some (.val nm), some (.val q), some (.val (.lst Rl)), some (.otup []), none, none, none, none, none, none, none, none] =
      some (.ok .nx, [some (.val sc), some (St t k4), some (.val nm), some (.val q), some (.val (.lst Rl)), some (OT A), none, none, none, none, none, v11, v12, none]))
    (eo : cc 33 [St t k4, T A] = some (.ok (T Bl), [St t k5, T A]))
    (et : Zt [some (.val sc), some (St t k5), some (.val nm), some (.val q), some (.val (.lst Rl)), some (OT A), some (T Bl), none, none, none, none, v11, v12, none] = some (.ok (.olst Tw), [some (.val sc), some (St t k5), some (.val nm), some (.val q), some (.val (.lst Rl)), some (OT A), some (T Bl), none, none, none, none, v11, v12, none]))
    (e6 : cc 11 [.val q] = some (.ok (.olst L), [.val q]))
    (hi : Zr [some (.val sc), some (St t k5), some (.val nm), some (.val q), some (.val (.lst Rl)), some (OT A), some (T Bl), some (.olst Tw), some (.olst L), some (.olst L), none, v11, v12, none] = some (.ok U, [some (.val sc), some (St t k5), some (.val nm), some (.val q), some (.val (.lst Rl)), some (OT A), some (T Bl), some (.olst Tw), some (.olst L), some (.olst L), none, v11, v12, none]))
    (ef : forL (gnm 10) B U [] [some (.val sc), some (St t k5), some (.val nm), some (.val q), some (.val (.lst Rl)), some (OT A), some (T Bl), some (.olst Tw), some (.olst L), some (.olst L), none, v11, v12, none] =
      some (.ok .nx, [some (.val sc), some (St t k5), some (.val nm), some (.val q), some (.val (.lst Rl)), some (OT A), some (T Bl), some c7, some c8, some c9, v10, v11, v12, v13])) :
    runD 1 14 (seq (sset 1 (dlst (acons (frz (ocall (cc 20) 1 (cval (getv 0) (KR.ret [])))) (acons (KR.ret (.int 0)) (KR.ret [])))))
  (seq (sset 2 (ocall (cc 29) 1 (clend 1 (KR.ret []))))
  (seq (sset 3 (ocall (cc 31) 3 (clend 1 (cval (getv 2) (cval (KR.bin gadd (KR.ret (.int 1)) (frz (ocall (cc 23) 2 (clend 1 (cval (KR.ret (.int 9)) (KR.ret [])))))) (KR.ret []))))))
  (seq (sset 4 (ocall (cc 32) 3 (clend 1 (cval (getv 2) (cval (KR.ret (.int 9)) (KR.ret []))))))
  (seq (sset 5 (nice (ntup (KR.ret []))))
  (seq (sfor G (its (getv 4)) BUv)
  (seq (sset 6 (ocall (cc 33) 2 (clend 1 (cval (getv 5) (KR.ret [])))))
  (seq (sset 7 Zt)
  (seq (sset 8 (ocall (cc 11) 1 (cval (getv 3) (KR.ret []))))
  (seq (sset 9 (ocall (cc 11) 1 (cval (getv 3) (KR.ret []))))
  (seq (sfor (gnm 10) Zr B)
  (sret (val (KR.ret (.bl true))))))))))))))) [.val sc] = some (.ok (.val (.bl true)), [.val sc]) := by
  refine runV (ds := [sc]) rfl (by decide) (v := [some (.val sc), some (St t k5), some (.val nm), some (.val q), some (.val (.lst Rl)), some (OT A), some (T Bl), some c7, some c8, some c9, v10, v11, v12, v13]) ?_
  simp [takeA, putA, e1, e2, e3, e4, e6, e8, eu, eo, et, hi, ef]
theorem law_true (ns : List Int) (h : ns.length ≤ 63) : ∃ rs, call DEEP 36 [.val (.lsr (ns.map .int))] = some (.ok (.val (.bl true)), rs) := by
  obtain ⟨t, ht, hl, et⟩ := tape_eq (n := 58) h
  obtain ⟨names, hn, en⟩ := names_eq (n := 56) (k := 0) ht hl (by decide) (by decide)
  obtain ⟨r, r0, r1, er⟩ := take_eq (n := 57) (k := 2) (m := 9) ht hl (by decide) (by decide) (by decide)
  obtain ⟨m, hm⟩ : ∃ m : Nat, 1 + r = (m : Int) := ⟨(1 + r).toNat, by omega⟩
  obtain ⟨d, k', ⟨q, hq, rfl⟩, a2, a3, ed⟩ := tree_eq hn ht hl m (by omega) (by omega) (56 - m) 3 (by omega) (by omega)
  rw [show m + (56 - m) + 3 = 59 by omega] at ed
  obtain ⟨k4, row, b1, b2, b3, b4, e5⟩ := row_eq (n := 55) hn ht hl (k := k') (by omega) (by omega) (m := 9) (by decide)
  have hf : ∀ r ∈ row, Fr r.2 := fun r hr => (b4 r hr).1
  have hm11 : m ≤ 11 := by omega
  obtain ⟨A, v11, v12, p1, p2, GA, _, hA, lA, eu⟩ := among_for (cc := call 59) (with_ok (n := 57)) (s := .val (.lsr (ints' ns))) (st := St t k4) (nm := NS names) (q := .val q.toD) (R := RW row) row [] none none (.inl rfl) (.inl rfl) good_nil hf (by rw [List.length_nil]; omega)
  rw [List.length_nil] at lA
  obtain ⟨k5, B, c1, c2, GB, hB, eo⟩ := others_ok (n := 55) ht hl (k := k4) (by omega) (by omega) (A := A) (by omega)
  have etw := twin_comp (cc := call 59) (A := A) (B := B) (fun o ho => replaced_ok (k := 58) ho hB) (s := .val (.lsr (ints' ns))) (st := St t k5) (nm := NS names) (q := .val q.toD) hA (by omega) p1 p2
  have efc := first_cells_ok (m := m) (k := 57 - m) hq hm11
  rw [show m + 2 + (57 - m) = 59 by omega] at efc
  have el : List.replicate q.parts (cd E0) = (firstT q).flat.map cd := by rw [first_flat, List.map_replicate]
  rw [el] at efc
  obtain ⟨c7, c8, c9, v10, v13, ef⟩ := law_for (n := 59) hq hm11 (by decide) (s := .val (.lsr (ints' ns))) (st := St t k5) (nm := NS names) (row := row) (by omega) GA GB hB hA (c7 := .olst ((row.map (fR (toB A B))).map rc)) (c8 := .olst ((firstT q).flat.map cd)) (c9 := .olst ((firstT q).flat.map cd)) (v11 := v11) (v12 := v12) (.inl rfl) (.inl rfl) (.inl rfl)
  have et' : call 59 20 [.val (.lsr (ints' ns))] = some (.ok (.val (TL t)), [.val (.lsr (ints' ns))]) := et
  have en' : call 59 29 [St t 0] = some (.ok (NS names), [St t 2]) := en
  have er' : call 59 23 [St t 2, KR.I 9] = some (.ok (KR.I r), [St t 3, KR.I 9]) := er
  have ed' : call 59 31 [St t 3, NS names, KR.I (1 + r)] = some (.ok (.val q.toD), [St t k', NS names, KR.I (1 + r)]) := by rw [hm]; exact ed
  have e5' : call 59 32 [St t k', NS names, KR.I 9] = some (.ok (.val (.lst (row.map rc))), [St t k4, NS names, KR.I 9]) := e5
  have hi : icl rng1 (acons (cal (f1 glen) (acons (getv 4) (KR.ret []))) (KR.ret [])) [some (.val (.lsr (ints' ns))), some (St t k5), some (NS names), some (.val q.toD), some (RW row), some (OT A), some (T B), some (.olst ((row.map (fR (toB A B))).map rc)), some (.olst ((firstT q).flat.map cd)), some (.olst ((firstT q).flat.map cd)), none, v11, v12, none] =
      some (.ok (ints' (upto row.length)), [some (.val (.lsr (ints' ns))), some (St t k5), some (NS names), some (.val q.toD), some (RW row), some (OT A), some (T B), some (.olst ((row.map (fR (toB A B))).map rc)), some (.olst ((firstT q).flat.map cd)), some (.olst ((firstT q).flat.map cd)), none, v11, v12, none]) :=
    icl_ok (as := [.int row.length]) (by simp) (upto_rng (by omega))
  refine ⟨[.val (.lsr (ints' ns))], ?_⟩
  rw [show DEEP = 59 + 1 from rfl, call]
  simp only [bodies]
  rw [b36_eq]
  exact law_end et' en' er' ed' e5' eu eo etw efc hi ef
end My

open PySem PySem.W PyProof.Rows in
set_option maxRecDepth 100000 in
set_option maxHeartbeats 0 in
theorem PySem.Challenge.cw_keeproom_k08_whole_order_alone_holds : PySem.Challenge.rw_keeproom_k08_whole_order_alone.Holds := by
  w_on; o_law; k_head; (case hw => w_witness2)
  k_fill
  refine My.walk My.law_true (l := PySem.Challenge.rw_keeproom_k08_whole_order_alone) rfl rfl (fun w h Y => PySem.W.kIn_of Y) ?F
  case F =>
    intro w mg fa h KX G hmg
    refine' My.all_mk KX G hmg ?a0 ?l0 ?c0 ?k0 ?a1 ?l1 ?c1 ?k1 ?a2 ?l2 ?c2 ?k2 ?a3 ?l3 ?c3 ?k3 ?a4 ?l4 ?c4 ?k4 ?a5 ?l5 ?c5 ?k5 ?a6 ?l6 ?c6 ?k6 ?a7 ?l7 ?c7 ?k7 ?a8 ?l8 ?c8 ?k8 ?a9 ?l9 ?c9 ?k9 ?a10 ?l10 ?c10 ?k10 ?a11 ?l11 ?c11 ?k11 ?a12 ?l12 ?c12 ?k12 ?a13 ?l13 ?c13 ?k13 ?a14 ?l14 ?c14 ?k14 ?a15 ?l15 ?c15 ?k15 ?a16 ?l16 ?c16 ?k16 ?a17 ?l17 ?c17 ?k17 ?a18 ?l18 ?c18 ?k18 ?a19 ?l19 ?c19 ?k19 ?a20 ?l20 ?c20 ?k20 ?a21 ?l21 ?c21 ?k21 ?a22 ?l22 ?c22 ?k22 ?a23 ?l23 ?c23 ?k23 ?a24 ?l24 ?c24 ?k24 ?a25 ?l25 ?c25 ?k25 ?a26 ?l26 ?c26 ?k26 ?a27 ?l27 ?c27 ?k27 ?a28 ?l28 ?c28 ?k28 ?a29 ?l29 ?c29 ?k29 ?a30 ?l30 ?c30 ?k30 ?a31 ?l31 ?c31 ?k31 ?a32 ?l32 ?c32 ?k32 ?a33 ?l33 ?c33 ?k33 ?a34 ?l34 ?c34 ?k34 ?a35 ?l35 ?c35 ?k35 ?a36 ?l36 ?c36 ?k36 ?b_abs ?b_bool ?b_enumerate ?b_int ?b_isinstance ?b_len ?b_list ?b_max ?b_min ?b_range ?b_str ?b_sum ?b_tuple ?b_zip ?g_EMPTY ?u_EMPTY ?h_EMPTY ?r_EMPTY ?u_EMPTY_2 ?h_EMPTY_2 ?r_EMPTY_2
    (case a0 => k_is)
    (case l0 => k_is)
    (case c0 => k_is)
    (case k0 => k_is)
    (case a1 => k_is)
    (case l1 => k_is)
    (case c1 => k_is)
    (case k1 => k_is)
    (case a2 => k_is)
    (case l2 => k_is)
    (case c2 => k_is)
    (case k2 => k_is)
    (case a3 => k_is)
    (case l3 => k_is)
    (case c3 => k_is)
    (case k3 => k_is)
    (case a4 => k_is)
    (case l4 => k_is)
    (case c4 => k_is)
    (case k4 => k_is)
    (case a5 => k_is)
    (case l5 => k_is)
    (case c5 => k_is)
    (case k5 => k_is)
    (case a6 => k_is)
    (case l6 => k_is)
    (case c6 => k_is)
    (case k6 => k_is)
    (case a7 => k_is)
    (case l7 => k_is)
    (case c7 => k_is)
    (case k7 => k_is)
    (case a8 => k_is)
    (case l8 => k_is)
    (case c8 => k_is)
    (case k8 => k_is)
    (case a9 => k_is)
    (case l9 => k_is)
    (case c9 => k_is)
    (case k9 => k_is)
    (case a10 => k_is)
    (case l10 => k_is)
    (case c10 => k_is)
    (case k10 => k_is)
    (case a11 => k_is)
    (case l11 => k_is)
    (case c11 => k_is)
    (case k11 => k_is)
    (case a12 => k_is)
    (case l12 => k_is)
    (case c12 => k_is)
    (case k12 => k_is)
    (case a13 => k_is)
    (case l13 => k_is)
    (case c13 => k_is)
    (case k13 => k_is)
    (case a14 => k_is)
    (case l14 => k_is)
    (case c14 => k_is)
    (case k14 => k_is)
    (case a15 => k_is)
    (case l15 => k_is)
    (case c15 => k_is)
    (case k15 => k_is)
    (case a16 => k_is)
    (case l16 => k_is)
    (case c16 => k_is)
    (case k16 => k_is)
    (case a17 => k_is)
    (case l17 => k_is)
    (case c17 => k_is)
    (case k17 => k_is)
    (case a18 => k_is)
    (case l18 => k_is)
    (case c18 => k_is)
    (case k18 => k_is)
    (case a19 => k_is)
    (case l19 => k_is)
    (case c19 => k_is)
    (case k19 => k_is)
    (case a20 => k_is)
    (case l20 => k_is)
    (case c20 => k_is)
    (case k20 => k_is)
    (case a21 => k_is)
    (case l21 => k_is)
    (case c21 => k_is)
    (case k21 => k_is)
    (case a22 => k_is)
    (case l22 => k_is)
    (case c22 => k_is)
    (case k22 => k_is)
    (case a23 => k_is)
    (case l23 => k_is)
    (case c23 => k_is)
    (case k23 => k_is)
    (case a24 => k_is)
    (case l24 => k_is)
    (case c24 => k_is)
    (case k24 => k_is)
    (case a25 => k_is)
    (case l25 => k_is)
    (case c25 => k_is)
    (case k25 => k_is)
    (case a26 => k_is)
    (case l26 => k_is)
    (case c26 => k_is)
    (case k26 => k_is)
    (case a27 => k_is)
    (case l27 => k_is)
    (case c27 => k_is)
    (case k27 => k_is)
    (case a28 => k_is)
    (case l28 => k_is)
    (case c28 => k_is)
    (case k28 => k_is)
    (case a29 => k_is)
    (case l29 => k_is)
    (case c29 => k_is)
    (case k29 => k_is)
    (case a30 => k_is)
    (case l30 => k_is)
    (case c30 => k_is)
    (case k30 => k_is)
    (case a31 => k_is)
    (case l31 => k_is)
    (case c31 => k_is)
    (case k31 => k_is)
    (case a32 => k_is)
    (case l32 => k_is)
    (case c32 => k_is)
    (case k32 => k_is)
    (case a33 => k_is)
    (case l33 => k_is)
    (case c33 => k_is)
    (case k33 => k_is)
    (case a34 => k_is)
    (case l34 => k_is)
    (case c34 => k_is)
    (case k34 => k_is)
    (case a35 => k_is)
    (case l35 => k_is)
    (case c35 => k_is)
    (case k35 => k_is)
    (case a36 => k_is)
    (case l36 => k_is)
    (case c36 => k_is)
    (case k36 => k_is)
    (case b_abs => k_is)
    (case b_bool => k_is)
    (case b_enumerate => k_is)
    (case b_int => k_is)
    (case b_isinstance => k_is)
    (case b_len => k_is)
    (case b_list => k_is)
    (case b_max => k_is)
    (case b_min => k_is)
    (case b_range => k_is)
    (case b_str => k_is)
    (case b_sum => k_is)
    (case b_tuple => k_is)
    (case b_zip => k_is)
    (case g_EMPTY => k_is)
    (case u_EMPTY => k_is)
    (case h_EMPTY => decide)
    (case r_EMPTY => exact .cons rfl (.cons ⟨_, rfl⟩ (.cons rfl (.nil))))
    (case u_EMPTY_2 => k_is)
    (case h_EMPTY_2 => decide)
    (case r_EMPTY_2 => exact .nil)
#print axioms PySem.Challenge.cw_keeproom_k08_whole_order_alone_holds
#print axioms PySem.Challenge.cw_keeproom_k08_whole_order_alone_holds

