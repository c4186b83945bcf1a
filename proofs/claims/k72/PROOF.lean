import PyProof.Rows.All
import Wide.All
import OpenK.AllK
import Wide.FinOn
import HandS.ForMost
import HandS.Exc
import HandS.ExcOwn
import HandS.WordsExc
import HandS.TryOnly
import HandS.TupAny
import HandS.Wide
import HandS.IsInst
import HandS.Deep
import HandS.Text
import HandS.TupLen
import HandS.RaiseMore
import HandS.Strs
import HandS.Iter
import HandS.More
import HandS.DictTup
import HandS.Comp
import HandS.ExcIs
import HandS.Ends
import PySem.Challenge.RW_onelook_k72_rows_that_fit
set_option Elab.async false
set_option linter.all false
set_option maxRecDepth 100000
namespace OL
open PySem PySem.Spec PyProof.Rows L2

/-! ### data: what a value stands for; the mark of a list or dict: ours alone (true), or never to be changed (false) -/
inductive D where
  | non
  | bl (b : Bool)
  | int (i : Int)
  | str (x : Str)
  | tup (ds : List D)
  | lst (o : Bool) (ds : List D)
  | dct (o : Bool) (kvs : List (List Key × D))
  | exn (C : Addr)

mutual
def D.frz : D → D
  | .tup ds => .tup (D.frzs ds)
  | .lst _ ds => .lst false (D.frzs ds)
  | .dct _ kvs => .dct false (D.frzk kvs)
  | .non => .non
  | .bl b => .bl b
  | .int i => .int i
  | .str x => .str x
  | .exn C => .exn C
def D.frzs : List D → List D
  | [] => []
  | d :: ds => d.frz :: D.frzs ds
def D.frzk : List (List Key × D) → List (List Key × D)
  | [] => []
  | (k, d) :: ds => (k, d.frz) :: D.frzk ds
end
/-! no list and no dict within that is another's -/
mutual
def D.clean : D → Bool
  | .tup ds => D.cleans ds
  | .lst o ds => o && D.cleans ds
  | .dct o kvs => o && D.cleank kvs
  | _ => true
def D.cleans : List D → Bool
  | [] => true
  | d :: ds => d.clean && D.cleans ds
def D.cleank : List (List Key × D) → Bool
  | [] => true
  | (_, d) :: ds => d.clean && D.cleank ds
end
/-! a list or a dict within that is ours -/
mutual
def D.owns : D → Bool
  | .tup ds => D.ownss ds
  | .lst o ds => o || D.ownss ds
  | .dct o kvs => o || D.ownsk kvs
  | _ => false
def D.ownss : List D → Bool
  | [] => false
  | d :: ds => d.owns || D.ownss ds
def D.ownsk : List (List Key × D) → Bool
  | [] => false
  | (_, d) :: ds => d.owns || D.ownsk ds
end

/-- it begins with a number: what may be a dict's key is tracked -/
def D.keyish : List D → Bool
  | .int _ :: _ => true
  | _ => false
/-- it begins with a text: that it bears no dict of its own is known -/
def D.strish : List D → Bool
  | .str _ :: _ => true
  | _ => false
theorem keyish_frzs : ∀ ds : List D, D.keyish (D.frzs ds) = D.keyish ds
  | [] => rfl
  | d :: ds => by cases d <;> rfl
theorem strish_frzs : ∀ ds : List D, D.strish (D.frzs ds) = D.strish ds
  | [] => rfl
  | d :: ds => by cases d <;> rfl
def TupD (K : PySem.W.Frag) (F : Hp) (a : Addr) : Prop := (∃ o u, F a = some (.frz o u) ∧ o.dict = none) ∨ ∃ o, K.lookup a = some o ∧ o.dict = none
structure TupOk (K : PySem.W.Frag) (F : Hp) (ds : List D) (a : Addr) (vs : List V) : Prop where
  sq : SqT K F a vs
  key : D.keyish ds = true → F a = some (.tup vs)
  bare : D.strish ds = true → TupD K F a

/-- an error of the class at C, told of no more -/
def excHO (a C : Addr) : HO := .ext fun h => ∃ oe vs, h.get? a = some oe ∧ oe.cls = .ref C ∧ oe.dict = none ∧ oe.data = .fields vs

/-! ### a value stands for a datum: F what never changes, H what stands now, f the places that are the datum's own -/
mutual
def Rp (K : PySem.W.Frag) (F H : Hp) : D → V → List Addr → Prop
  | .non, v, f => v = .non ∧ f = []
  | .bl b, v, f => v = .bl b ∧ f = []
  | .int i, v, f => v = .int i ∧ f = []
  | .str x, v, f => v = .str x ∧ f = []
  | .exn C, v, f => ∃ a, v = .ref a ∧ F a = some (excHO a C) ∧ f = []
  | .tup ds, v, f => ∃ a vs, v = .ref a ∧ TupOk K F ds a vs ∧ Rps K F H ds vs f
  | .lst false ds, v, f => ∃ a vs, v = .ref a ∧ SqL K F a vs ∧ Rps K F H ds vs [] ∧ f = []
  | .lst true ds, v, f => ∃ a vs g, v = .ref a ∧ H a = some (.lst vs) ∧ Rps K F H ds vs g ∧ f = a :: g
  | .dct false kvs, v, f => ∃ a ws, v = .ref a ∧ F a = some (.dT ws) ∧ Rpk K F H kvs ws [] ∧ f = []
  | .dct true kvs, v, f => ∃ a ws g, v = .ref a ∧ H a = some (.dT ws) ∧ Rpk K F H kvs ws g ∧ f = a :: g
def Rps (K : PySem.W.Frag) (F H : Hp) : List D → List V → List Addr → Prop
  | [], vs, f => vs = [] ∧ f = []
  | d :: ds, vs, f => ∃ v vr f1 f2, vs = v :: vr ∧ f = f1 ++ f2 ∧ Rp K F H d v f1 ∧ Rps K F H ds vr f2
def Rpk (K : PySem.W.Frag) (F H : Hp) : List (List Key × D) → List (List Key × V) → List Addr → Prop
  | [], ws, f => ws = [] ∧ f = []
  | (k, d) :: kvs, ws, f => ∃ v wr f1 f2, ws = (k, v) :: wr ∧ f = f1 ++ f2 ∧ Rp K F H d v f1 ∧ Rpk K F H kvs wr f2
end

def isM : HO → Bool
  | .lst _ => true
  | .dT _ => true
  | _ => false
theorem Rd.same {F F' : Hp} {a : Addr} {u : HO} (e : Same F F') (h : Rd F a u) : Rd F' a u := by
  rcases h with h | ⟨o, h⟩
  · exact .inl (e _ _ h)
  · exact .inr ⟨o, e _ _ h⟩
theorem sqt_same {K : PySem.W.Frag} {F F' : Hp} {a : Addr} {xs : List V} (e : Same F F') (h : SqT K F a xs) : SqT K F' a xs := by
  rcases h with h | h
  · exact .inl (Rd.same e h)
  · exact .inr h

theorem sqt_still {K : PySem.W.Frag} {F F' : Hp} {a : Addr} {xs : List V} (e : ∀ a o, F a = some o → isM o = false → F' a = some o) (h : SqT K F a xs) : SqT K F' a xs := by
  rcases h with (h | ⟨o, h⟩) | h
  · exact .inl (.inl (e _ _ h rfl))
  · exact .inl (.inr ⟨o, e _ _ h rfl⟩)
  · exact .inr h

theorem TupD.same {K : PySem.W.Frag} {F F' : Hp} {a : Addr} (e : Same F F') (h : TupD K F a) : TupD K F' a := by
  rcases h with ⟨o, u, h, z⟩ | h
  · exact .inl ⟨o, u, e _ _ h, z⟩
  · exact .inr h
theorem TupD.still {K : PySem.W.Frag} {F F' : Hp} {a : Addr} (e : ∀ a o, F a = some o → isM o = false → F' a = some o) (h : TupD K F a) : TupD K F' a := by
  rcases h with ⟨o, u, h, z⟩ | h
  · exact .inl ⟨o, u, e _ _ h rfl, z⟩
  · exact .inr h
theorem TupOk.same {K : PySem.W.Frag} {F F' : Hp} {ds : List D} {a : Addr} {vs : List V} (h : TupOk K F ds a vs) (e : Same F F') : TupOk K F' ds a vs := ⟨sqt_same e h.sq, fun z => e _ _ (h.key z), fun z => TupD.same e (h.bare z)⟩
theorem TupOk.frz {K : PySem.W.Frag} {F : Hp} {ds : List D} {a : Addr} {vs : List V} (h : TupOk K F ds a vs) : TupOk K F (D.frzs ds) a vs := ⟨h.sq, fun z => h.key (by rw [← keyish_frzs]; exact z), fun z => h.bare (by rw [← strish_frzs]; exact z)⟩
theorem TupOk.still {K : PySem.W.Frag} {F F' : Hp} {ds : List D} {a : Addr} {vs : List V} (h : TupOk K F ds a vs) (e : ∀ a o, F a = some o → isM o = false → F' a = some o) : TupOk K F' ds a vs := ⟨sqt_still e h.sq, fun z => e _ _ (h.key z) rfl, fun z => TupD.still e (h.bare z)⟩

section
variable {K : PySem.W.Frag} {F F' H H' : Hp}
mutual
theorem Rp.mono (e : Same F F') : ∀ (d : D) (v : V) (f : List Addr), (∀ b ∈ f, ∀ o, H b = some o → H' b = some o) → Rp K F H d v f → Rp K F' H' d v f
  | .exn C, v, f, _, h => let ⟨a, e1, e2, e3⟩ := h; ⟨a, e1, e _ _ e2, e3⟩
  | .non, v, f, _, h => h
  | .bl b, v, f, _, h => h
  | .int i, v, f, _, h => h
  | .str x, v, f, _, h => h
  | .tup ds, v, f, k, h => by
    obtain ⟨a, vs, e1, e2, e3⟩ := h
    exact ⟨a, vs, e1, e2.same e, Rps.mono e ds vs f k e3⟩
  | .lst false ds, v, f, k, h => by
    obtain ⟨a, vs, e1, e2, e3, e4⟩ := h
    exact ⟨a, vs, e1, e.seq e2, Rps.mono e ds vs [] (fun _ z => nomatch z) e3, e4⟩
  | .lst true ds, v, f, k, h => by
    obtain ⟨a, vs, g, e1, e2, e3, e4⟩ := h
    subst e4
    exact ⟨a, vs, g, e1, k _ List.mem_cons_self _ e2, Rps.mono e ds vs g (fun b hb => k b (List.mem_cons_of_mem _ hb)) e3, rfl⟩
  | .dct false ds, v, f, k, h => by
    obtain ⟨a, vs, e1, e2, e3, e4⟩ := h
    exact ⟨a, vs, e1, e _ _ e2, Rpk.mono e ds vs [] (fun _ z => nomatch z) e3, e4⟩
  | .dct true ds, v, f, k, h => by
    obtain ⟨a, vs, g, e1, e2, e3, e4⟩ := h
    subst e4
    exact ⟨a, vs, g, e1, k _ List.mem_cons_self _ e2, Rpk.mono e ds vs g (fun b hb => k b (List.mem_cons_of_mem _ hb)) e3, rfl⟩
theorem Rps.mono (e : Same F F') : ∀ (ds : List D) (vs : List V) (f : List Addr), (∀ b ∈ f, ∀ o, H b = some o → H' b = some o) → Rps K F H ds vs f → Rps K F' H' ds vs f
  | [], vs, f, _, h => h
  | d :: ds, vs, f, k, h => by
    obtain ⟨v, vr, f1, f2, e1, e2, e3, e4⟩ := h
    subst e2
    exact ⟨v, vr, f1, f2, e1, rfl, Rp.mono e d v f1 (fun b hb => k b (List.mem_append_left _ hb)) e3, Rps.mono e ds vr f2 (fun b hb => k b (List.mem_append_right _ hb)) e4⟩
theorem Rpk.mono (e : Same F F') : ∀ (ds : List (List Key × D)) (vs : List (List Key × V)) (f : List Addr), (∀ b ∈ f, ∀ o, H b = some o → H' b = some o) → Rpk K F H ds vs f → Rpk K F' H' ds vs f
  | [], vs, f, _, h => h
  | (x, d) :: ds, vs, f, k, h => by
    obtain ⟨v, vr, f1, f2, e1, e2, e3, e4⟩ := h
    subst e2
    exact ⟨v, vr, f1, f2, e1, rfl, Rp.mono e d v f1 (fun b hb => k b (List.mem_append_left _ hb)) e3, Rpk.mono e ds vr f2 (fun b hb => k b (List.mem_append_right _ hb)) e4⟩
end
/-! frozen: what was the datum's own stands in F' now -/
mutual
theorem Rp.frz (e : Same F F') : ∀ (d : D) (v : V) (f : List Addr), (∀ b ∈ f, ∀ o, H b = some o → F' b = some o) → Rp K F H d v f → Rp K F' H' d.frz v []
  | .exn C, v, f, _, h => let ⟨a, e1, e2, e3⟩ := h; ⟨a, e1, e _ _ e2, rfl⟩
  | .non, v, f, _, h => ⟨h.1, rfl⟩
  | .bl b, v, f, _, h => ⟨h.1, rfl⟩
  | .int i, v, f, _, h => ⟨h.1, rfl⟩
  | .str x, v, f, _, h => ⟨h.1, rfl⟩
  | .tup ds, v, f, k, h => by
    obtain ⟨a, vs, e1, e2, e3⟩ := h
    exact ⟨a, vs, e1, (e2.same e).frz, Rps.frz e ds vs f k e3⟩
  | .lst false ds, v, f, k, h => by
    obtain ⟨a, vs, e1, e2, e3, e4⟩ := h
    exact ⟨a, vs, e1, e.seq e2, Rps.frz e ds vs [] (fun _ z => nomatch z) e3, rfl⟩
  | .lst true ds, v, f, k, h => by
    obtain ⟨a, vs, g, e1, e2, e3, e4⟩ := h
    subst e4
    exact ⟨a, vs, e1, .inl (.inl (k _ List.mem_cons_self _ e2)), Rps.frz e ds vs g (fun b hb => k b (List.mem_cons_of_mem _ hb)) e3, rfl⟩
  | .dct false ds, v, f, k, h => by
    obtain ⟨a, vs, e1, e2, e3, e4⟩ := h
    exact ⟨a, vs, e1, e _ _ e2, Rpk.frz e ds vs [] (fun _ z => nomatch z) e3, rfl⟩
  | .dct true ds, v, f, k, h => by
    obtain ⟨a, vs, g, e1, e2, e3, e4⟩ := h
    subst e4
    exact ⟨a, vs, e1, k _ List.mem_cons_self _ e2, Rpk.frz e ds vs g (fun b hb => k b (List.mem_cons_of_mem _ hb)) e3, rfl⟩
theorem Rps.frz (e : Same F F') : ∀ (ds : List D) (vs : List V) (f : List Addr), (∀ b ∈ f, ∀ o, H b = some o → F' b = some o) → Rps K F H ds vs f → Rps K F' H' (D.frzs ds) vs []
  | [], vs, f, _, h => ⟨h.1, rfl⟩
  | d :: ds, vs, f, k, h => by
    obtain ⟨v, vr, f1, f2, e1, e2, e3, e4⟩ := h
    subst e2
    exact ⟨v, vr, [], [], e1, rfl, Rp.frz e d v f1 (fun b hb => k b (List.mem_append_left _ hb)) e3, Rps.frz e ds vr f2 (fun b hb => k b (List.mem_append_right _ hb)) e4⟩
theorem Rpk.frz (e : Same F F') : ∀ (ds : List (List Key × D)) (vs : List (List Key × V)) (f : List Addr), (∀ b ∈ f, ∀ o, H b = some o → F' b = some o) → Rpk K F H ds vs f → Rpk K F' H' (D.frzk ds) vs []
  | [], vs, f, _, h => ⟨h.1, rfl⟩
  | (x, d) :: ds, vs, f, k, h => by
    obtain ⟨v, vr, f1, f2, e1, e2, e3, e4⟩ := h
    subst e2
    exact ⟨v, vr, [], [], e1, rfl, Rp.frz e d v f1 (fun b hb => k b (List.mem_append_left _ hb)) e3, Rpk.frz e ds vr f2 (fun b hb => k b (List.mem_append_right _ hb)) e4⟩
end
/-! a clean datum leans on the tuples alone -/
mutual
theorem Rp.clean (e : ∀ a o, F a = some o → isM o = false → F' a = some o) : ∀ (d : D) (v : V) (f : List Addr), d.clean = true → Rp K F H d v f → Rp K F' H d v f
  | .exn C, v, f, _, h => let ⟨a, e1, e2, e3⟩ := h; ⟨a, e1, e _ _ e2 rfl, e3⟩
  | .non, v, f, _, h => h
  | .bl b, v, f, _, h => h
  | .int i, v, f, _, h => h
  | .str x, v, f, _, h => h
  | .tup ds, v, f, k, h => by
    obtain ⟨a, vs, e1, e2, e3⟩ := h
    exact ⟨a, vs, e1, e2.still e, Rps.clean e ds vs f k e3⟩
  | .lst false ds, v, f, k, h => nomatch k
  | .lst true ds, v, f, k, h => by
    obtain ⟨a, vs, g, e1, e2, e3, e4⟩ := h
    exact ⟨a, vs, g, e1, e2, Rps.clean e ds vs g k e3, e4⟩
  | .dct false ds, v, f, k, h => nomatch k
  | .dct true ds, v, f, k, h => by
    obtain ⟨a, vs, g, e1, e2, e3, e4⟩ := h
    exact ⟨a, vs, g, e1, e2, Rpk.clean e ds vs g k e3, e4⟩
theorem Rps.clean (e : ∀ a o, F a = some o → isM o = false → F' a = some o) : ∀ (ds : List D) (vs : List V) (f : List Addr), D.cleans ds = true → Rps K F H ds vs f → Rps K F' H ds vs f
  | [], vs, f, _, h => h
  | d :: ds, vs, f, k, h => by
    obtain ⟨v, vr, f1, f2, e1, e2, e3, e4⟩ := h
    have k' : (d.clean && D.cleans ds) = true := k
    rw [Bool.and_eq_true] at k'
    exact ⟨v, vr, f1, f2, e1, e2, Rp.clean e d v f1 k'.1 e3, Rps.clean e ds vr f2 k'.2 e4⟩
theorem Rpk.clean (e : ∀ a o, F a = some o → isM o = false → F' a = some o) : ∀ (ds : List (List Key × D)) (vs : List (List Key × V)) (f : List Addr), D.cleank ds = true → Rpk K F H ds vs f → Rpk K F' H ds vs f
  | [], vs, f, _, h => h
  | (x, d) :: ds, vs, f, k, h => by
    obtain ⟨v, vr, f1, f2, e1, e2, e3, e4⟩ := h
    have k' : (d.clean && D.cleank ds) = true := k
    rw [Bool.and_eq_true] at k'
    exact ⟨v, vr, f1, f2, e1, e2, Rp.clean e d v f1 k'.1 e3, Rpk.clean e ds vr f2 k'.2 e4⟩
end
/-! own places hold lists or dicts -/
mutual
theorem Rp.own : ∀ (d : D) (v : V) (f : List Addr), Rp K F H d v f → ∀ b ∈ f, ∃ o, H b = some o ∧ isM o = true
  | .exn C, v, f, h => by
    obtain ⟨a, e1, e2, e3⟩ := h
    rw [e3]; exact fun _ z => nomatch z
  | .non, v, f, h => by rw [h.2]; exact fun _ z => nomatch z
  | .bl b, v, f, h => by rw [h.2]; exact fun _ z => nomatch z
  | .int i, v, f, h => by rw [h.2]; exact fun _ z => nomatch z
  | .str x, v, f, h => by rw [h.2]; exact fun _ z => nomatch z
  | .tup ds, v, f, h => by
    obtain ⟨a, vs, e1, e2, e3⟩ := h
    exact Rps.own ds vs f e3
  | .lst false ds, v, f, h => by
    obtain ⟨a, vs, e1, e2, e3, e4⟩ := h
    rw [e4]; exact fun _ z => nomatch z
  | .lst true ds, v, f, h => by
    obtain ⟨a, vs, g, e1, e2, e3, e4⟩ := h
    subst e4
    intro b hb
    rcases List.mem_cons.mp hb with rfl | hb
    · exact ⟨_, e2, rfl⟩
    · exact Rps.own ds vs g e3 b hb
  | .dct false ds, v, f, h => by
    obtain ⟨a, vs, e1, e2, e3, e4⟩ := h
    rw [e4]; exact fun _ z => nomatch z
  | .dct true ds, v, f, h => by
    obtain ⟨a, vs, g, e1, e2, e3, e4⟩ := h
    subst e4
    intro b hb
    rcases List.mem_cons.mp hb with rfl | hb
    · exact ⟨_, e2, rfl⟩
    · exact Rpk.own ds vs g e3 b hb
theorem Rps.own : ∀ (ds : List D) (vs : List V) (f : List Addr), Rps K F H ds vs f → ∀ b ∈ f, ∃ o, H b = some o ∧ isM o = true
  | [], vs, f, h => by rw [h.2]; exact fun _ z => nomatch z
  | d :: ds, vs, f, h => by
    obtain ⟨v, vr, f1, f2, e1, e2, e3, e4⟩ := h
    subst e2
    intro b hb
    rcases List.mem_append.mp hb with hb | hb
    · exact Rp.own d v f1 e3 b hb
    · exact Rps.own ds vr f2 e4 b hb
theorem Rpk.own : ∀ (ds : List (List Key × D)) (vs : List (List Key × V)) (f : List Addr), Rpk K F H ds vs f → ∀ b ∈ f, ∃ o, H b = some o ∧ isM o = true
  | [], vs, f, h => by rw [h.2]; exact fun _ z => nomatch z
  | (x, d) :: ds, vs, f, h => by
    obtain ⟨v, vr, f1, f2, e1, e2, e3, e4⟩ := h
    subst e2
    intro b hb
    rcases List.mem_append.mp hb with hb | hb
    · exact Rp.own d v f1 e3 b hb
    · exact Rpk.own ds vr f2 e4 b hb
end
/-! what owns nothing has no own places -/
mutual
theorem Rp.none : ∀ (d : D) (v : V) (f : List Addr), d.owns = false → Rp K F H d v f → f = []
  | .exn C, v, f, _, h => let ⟨a, e1, e2, e3⟩ := h; e3
  | .non, v, f, _, h => h.2
  | .bl b, v, f, _, h => h.2
  | .int i, v, f, _, h => h.2
  | .str x, v, f, _, h => h.2
  | .tup ds, v, f, k, h => by
    obtain ⟨a, vs, e1, e2, e3⟩ := h
    exact Rps.none ds vs f k e3
  | .lst false ds, v, f, k, h => by
    obtain ⟨a, vs, e1, e2, e3, e4⟩ := h
    exact e4
  | .lst true ds, v, f, k, h => nomatch k
  | .dct false ds, v, f, k, h => by
    obtain ⟨a, vs, e1, e2, e3, e4⟩ := h
    exact e4
  | .dct true ds, v, f, k, h => nomatch k
theorem Rps.none : ∀ (ds : List D) (vs : List V) (f : List Addr), D.ownss ds = false → Rps K F H ds vs f → f = []
  | [], vs, f, _, h => h.2
  | d :: ds, vs, f, k, h => by
    obtain ⟨v, vr, f1, f2, e1, e2, e3, e4⟩ := h
    have k' : (d.owns || D.ownss ds) = false := k
    rw [Bool.or_eq_false_iff] at k'
    rw [e2, Rp.none d v f1 k'.1 e3, Rps.none ds vr f2 k'.2 e4]
    rfl
end
end
end OL

namespace OL
open PySem PySem.Spec PyProof.Rows L2

abbrev Env := List (Option D)
abbrev Stk := List (List D × List V)
def RS (K : PySem.W.Frag) (F H : Hp) : Stk → List Addr → Prop
  | [], f => f = []
  | (ds, vs) :: S, f => ∃ f1 f2, f = f1 ++ f2 ∧ Rps K F H ds vs f1 ∧ RS K F H S f2
def RL (K : PySem.W.Frag) (F H : Hp) : Env → List (Option V) → List Addr → Prop
  | [], σ, f => σ = [] ∧ f = []
  | none :: ρ, σ, f => ∃ x σr, σ = x :: σr ∧ RL K F H ρ σr f
  | some d :: ρ, σ, f => ∃ v σr f1 f2, σ = some v :: σr ∧ f = f1 ++ f2 ∧ Rp K F H d v f1 ∧ RL K F H ρ σr f2

section
variable {K : PySem.W.Frag} {F F' H H' : Hp}
theorem RS.mono (e : Same F F') : ∀ (S : Stk) (f : List Addr), (∀ b ∈ f, ∀ o, H b = some o → H' b = some o) → RS K F H S f → RS K F' H' S f
  | [], f, _, h => h
  | (ds, vs) :: S, f, k, h => by
    obtain ⟨f1, f2, e1, e2, e3⟩ := h
    subst e1
    exact ⟨f1, f2, rfl, Rps.mono e ds vs f1 (fun b hb => k b (List.mem_append_left _ hb)) e2, RS.mono e S f2 (fun b hb => k b (List.mem_append_right _ hb)) e3⟩
theorem RL.mono (e : Same F F') : ∀ (ρ : Env) (σ : List (Option V)) (f : List Addr), (∀ b ∈ f, ∀ o, H b = some o → H' b = some o) → RL K F H ρ σ f → RL K F' H' ρ σ f
  | [], σ, f, _, h => h
  | none :: ρ, σ, f, k, h => by
    obtain ⟨x, σr, e1, e2⟩ := h
    exact ⟨x, σr, e1, RL.mono e ρ σr f k e2⟩
  | some d :: ρ, σ, f, k, h => by
    obtain ⟨v, σr, f1, f2, e1, e2, e3, e4⟩ := h
    subst e2
    exact ⟨v, σr, f1, f2, e1, rfl, Rp.mono e d v f1 (fun b hb => k b (List.mem_append_left _ hb)) e3, RL.mono e ρ σr f2 (fun b hb => k b (List.mem_append_right _ hb)) e4⟩
theorem RS.own : ∀ (S : Stk) (f : List Addr), RS K F H S f → ∀ b ∈ f, ∃ o, H b = some o ∧ isM o = true
  | [], f, h => by rw [show f = [] from h]; exact fun _ z => nomatch z
  | (ds, vs) :: S, f, h => by
    obtain ⟨f1, f2, e1, e2, e3⟩ := h
    subst e1
    intro b hb
    rcases List.mem_append.mp hb with hb | hb
    · exact Rps.own ds vs f1 e2 b hb
    · exact RS.own S f2 e3 b hb
theorem RL.own : ∀ (ρ : Env) (σ : List (Option V)) (f : List Addr), RL K F H ρ σ f → ∀ b ∈ f, ∃ o, H b = some o ∧ isM o = true
  | [], σ, f, h => by rw [h.2]; exact fun _ z => nomatch z
  | none :: ρ, σ, f, h => by
    obtain ⟨x, σr, e1, e2⟩ := h
    exact RL.own ρ σr f e2
  | some d :: ρ, σ, f, h => by
    obtain ⟨v, σr, f1, f2, e1, e2, e3, e4⟩ := h
    subst e2
    intro b hb
    rcases List.mem_append.mp hb with hb | hb
    · exact Rp.own d v f1 e3 b hb
    · exact RL.own ρ σr f2 e4 b hb
theorem RL.len : ∀ (ρ : Env) (σ : List (Option V)) (f : List Addr), RL K F H ρ σ f → σ.length = ρ.length
  | [], σ, f, h => by rw [h.1]; rfl
  | none :: ρ, σ, f, h => by
    obtain ⟨x, σr, e1, e2⟩ := h
    rw [e1, List.length_cons, List.length_cons, RL.len ρ σr f e2]
  | some d :: ρ, σ, f, h => by
    obtain ⟨v, σr, f1, f2, e1, e2, e3, e4⟩ := h
    rw [e1, List.length_cons, List.length_cons, RL.len ρ σr f2 e4]
/-- a slot, and what may be put into it -/
theorem RL.slot : ∀ (ρ : Env) (σ : List (Option V)) (g : List Addr) (i : Nat), RL K F H ρ σ g → i < ρ.length → ∃ g1 rest, (∀ a, g.count a = g1.count a + rest.count a) ∧
    (∀ d, ρ[i]? = some (some d) → ∃ v, σ[i]? = some (some v) ∧ Rp K F H d v g1) ∧
    (∀ F' H', Same F F' → (∀ b ∈ rest, ∀ o, H b = some o → H' b = some o) → ∀ d' v' g1', Rp K F' H' d' v' g1' → ∃ g', RL K F' H' (ρ.set i (some d')) (σ.set i (some v')) g' ∧ ∀ a, g'.count a = g1'.count a + rest.count a) ∧
    (∀ F' H', Same F F' → (∀ b ∈ rest, ∀ o, H b = some o → H' b = some o) → ∀ x, RL K F' H' (ρ.set i none) (σ.set i x) rest)
  | [], σ, g, i, h, hi => absurd hi (Nat.not_lt_zero i)
  | none :: ρ, σ, g, 0, h, hi => by
    obtain ⟨x, σr, e1, e2⟩ := h
    subst e1
    refine ⟨[], g, fun a => by simp, (fun d q => by simp at q), fun F' H' e k d' v' g1' r => ?_, fun F' H' e k x => ⟨_, σr, rfl, RL.mono e ρ σr g k e2⟩⟩
    exact ⟨g1' ++ g, ⟨v', σr, g1', g, rfl, rfl, r, RL.mono e ρ σr g k e2⟩, fun a => by simp⟩
  | some d :: ρ, σ, g, 0, h, hi => by
    obtain ⟨v, σr, f1, f2, e1, e2, e3, e4⟩ := h
    subst e1 e2
    refine ⟨f1, f2, fun a => by simp, fun d' q => ?_, fun F' H' e k d' v' g1' r => ?_, fun F' H' e k x => ⟨_, σr, rfl, RL.mono e ρ σr f2 k e4⟩⟩
    · have : d = d' := by simpa using q
      subst this
      exact ⟨v, rfl, e3⟩
    · exact ⟨g1' ++ f2, ⟨v', σr, g1', f2, rfl, rfl, r, RL.mono e ρ σr f2 k e4⟩, fun a => by simp⟩
  | none :: ρ, σ, g, i + 1, h, hi => by
    obtain ⟨x, σr, e1, e2⟩ := h
    subst e1
    obtain ⟨g1, rest, c1, c2, c3, c4⟩ := RL.slot ρ σr g i e2 (Nat.lt_of_succ_lt_succ hi)
    refine ⟨g1, rest, c1, fun d q => c2 d (by simpa using q), fun F' H' e k d' v' g1' r => ?_, fun F' H' e k y => ⟨x, _, rfl, c4 F' H' e k y⟩⟩
    obtain ⟨g', q1, q2⟩ := c3 F' H' e k d' v' g1' r
    exact ⟨g', ⟨x, _, rfl, q1⟩, q2⟩
  | some d :: ρ, σ, g, i + 1, h, hi => by
    obtain ⟨v, σr, f1, f2, e1, e2, e3, e4⟩ := h
    subst e1 e2
    obtain ⟨g1, rest, c1, c2, c3, c4⟩ := RL.slot ρ σr f2 i e4 (Nat.lt_of_succ_lt_succ hi)
    refine ⟨g1, f1 ++ rest, fun a => ?_, fun d q => c2 d (by simpa using q), fun F' H' e k d' v' g1' r => ?_, fun F' H' e k y => ?_⟩
    · have := c1 a
      rw [List.count_append, List.count_append]
      omega
    · obtain ⟨g', q1, q2⟩ := c3 F' H' e (fun b hb => k b (List.mem_append_right _ hb)) d' v' g1' r
      refine ⟨f1 ++ g', ⟨v, _, f1, g', rfl, rfl, Rp.mono e d v f1 (fun b hb => k b (List.mem_append_left _ hb)) e3, q1⟩, fun a => ?_⟩
      have := q2 a
      rw [List.count_append, List.count_append]
      omega
    · exact ⟨v, _, f1, rest, rfl, rfl, Rp.mono e d v f1 (fun b hb => k b (List.mem_append_left _ hb)) e3, c4 F' H' e (fun b hb => k b (List.mem_append_right _ hb)) y⟩
end

/-! ### the state: H0 what stood at the entry, F0 what was frozen there -/
structure SIf (K : PySem.W.Frag) (H0 F0 F : Hp) (S : Stk) (ρ : Env) (σ : List (Option V)) (H : Hp) : Prop where
  sub : Same F H
  h0 : Same H0 H
  f0 : Same F0 F
  grow : ∀ a o, H0 a = some o → isM o = true → F a = F0 a
  ex : ∃ f g, RS K F H S f ∧ RL K F H ρ σ g ∧ (∀ a, f.count a + g.count a ≤ 1) ∧ ∀ a, a ∈ f ∨ a ∈ g → F a = none ∧ H0 a = none

/-- F' behind F: what is new in it was not there in H -/
structure Grows (F H F' H' : Hp) : Prop where
  hh : Same H H'
  ff : Same F F'
  fh : Same F' H'
  new : ∀ a o, H a = some o → isM o = true → F' a = F a
theorem Grows.rfl' {F H : Hp} (h : Same F H) : Grows F H F H := ⟨Same.refl _, Same.refl _, h, fun _ _ _ _ => rfl⟩
theorem Grows.trans {F H F1 H1 F2 H2 : Hp} (a : Grows F H F1 H1) (b : Grows F1 H1 F2 H2) : Grows F H F2 H2 :=
  ⟨a.hh.trans b.hh, a.ff.trans b.ff, b.fh, fun x o e m => (b.new x o (a.hh x o e) m).trans (a.new x o e m)⟩
theorem SIf.self {K : PySem.W.Frag} {H0 F0 F H : Hp} {S : Stk} {ρ : Env} {σ : List (Option V)} (I : SIf K H0 F0 F S ρ σ H) : Grows F H F H := Grows.rfl' I.sub
theorem count_mem {α : Type} [BEq α] [LawfulBEq α] {l : List α} {a : α} (h : 0 < l.count a) : a ∈ l := List.count_pos_iff.mp h
section
variable {K : PySem.W.Frag} {H0 F0 F F' H H' : Hp} {S : Stk} {ρ : Env} {σ : List (Option V)} {ds ds' : List D} {vs vs' : List V}
theorem SIf.ext (I : SIf K H0 F0 F S ρ σ H) (G : Grows F H F' H') : SIf K H0 F0 F' S ρ σ H' := by
  obtain ⟨f, g, r1, r2, c, o⟩ := I.ex
  refine ⟨G.fh, I.h0.trans G.hh, I.f0.trans G.ff, fun a x e m => (G.new a x (I.h0 a x e) m).trans (I.grow a x e m), f, g, RS.mono G.ff S f (fun b _ x e => G.hh b x e) r1, RL.mono G.ff ρ σ g (fun b _ x e => G.hh b x e) r2, c, fun a ha => ?_⟩
  obtain ⟨o1, o2⟩ := o a ha
  have : ∃ y, H a = some y ∧ isM y = true := by
    rcases ha with ha | ha
    · exact RS.own S f r1 a ha
    · exact RL.own ρ σ g r2 a ha
  obtain ⟨y, hy, hm⟩ := this
  exact ⟨(G.new a y hy hm).trans o1, o2⟩
theorem SIf.pop (I : SIf K H0 F0 F ((ds, vs) :: S) ρ σ H) : SIf K H0 F0 F S ρ σ H := by
  obtain ⟨f, g, ⟨f1, f2, e1, r0, r1⟩, r2, c, o⟩ := I.ex
  subst e1
  exact ⟨I.sub, I.h0, I.f0, I.grow, f2, g, r1, r2, fun a => by
    have := c a
    rw [List.count_append] at this
    omega, fun a ha => o a (ha.imp (fun z => List.mem_append_right _ z) id)⟩
/-- what the top group becomes -/
theorem SIf.top (I : SIf K H0 F0 F ((ds, vs) :: S) ρ σ H) (G : Grows F H F' H')
    (h : ∀ f, Rps K F H ds vs f → (∀ a ∈ f, F a = none ∧ H0 a = none) → (∀ a, f.count a ≤ 1) → ∃ f', Rps K F' H' ds' vs' f' ∧ ∀ a, f'.count a ≤ f.count a ∨ (f'.count a ≤ 1 ∧ H a = none ∧ F' a = none)) :
    SIf K H0 F0 F' ((ds', vs') :: S) ρ σ H' := by
  obtain ⟨f, g, ⟨f1, f2, e1, r0, r1⟩, r2, c, o⟩ := I.ex
  subst e1
  have J := I.ext G
  obtain ⟨_, _, ⟨_, _, _, _, _⟩, _, _, _⟩ := J.ex
  obtain ⟨f', q1, q2⟩ := h f1 r0 (fun a ha => o a (.inl (List.mem_append_left _ ha))) (fun a => by
    have := c a
    rw [List.count_append] at this
    omega)
  have oldm : ∀ a, a ∈ f1 ++ f2 ∨ a ∈ g → ∃ y, H a = some y ∧ isM y = true := fun a ha => by
    rcases ha with ha | ha
    · rcases List.mem_append.mp ha with ha | ha
      · exact Rps.own _ _ f1 r0 a ha
      · exact RS.own S f2 r1 a ha
    · exact RL.own ρ σ g r2 a ha
  have old : ∀ a, a ∈ f1 ++ f2 ∨ a ∈ g → H a ≠ none := fun a ha e => by
    obtain ⟨y, hy, _⟩ := oldm a ha
    rw [e] at hy; cases hy
  have fnew : ∀ a, a ∈ f1 ++ f2 ∨ a ∈ g → F' a = none := fun a ha => by
    obtain ⟨y, hy, hm⟩ := oldm a ha
    exact (G.new a y hy hm).trans (o a ha).1
  refine ⟨J.sub, J.h0, J.f0, J.grow, f' ++ f2, g, ⟨f', f2, rfl, q1, RS.mono G.ff S f2 (fun b _ x e => G.hh b x e) r1⟩, RL.mono G.ff ρ σ g (fun b _ x e => G.hh b x e) r2, fun a => ?_, fun a ha => ?_⟩
  · have c1 := c a
    rw [List.count_append] at c1 ⊢
    rcases q2 a with z | ⟨z1, z2, _⟩
    · omega
    · have n2 : f2.count a = 0 := List.count_eq_zero.mpr fun m => old a (.inl (List.mem_append_right _ m)) z2
      have n3 : g.count a = 0 := List.count_eq_zero.mpr fun m => old a (.inr m) z2
      omega
  · have key : a ∈ f' → F' a = none ∧ H0 a = none := fun m => by
      rcases q2 a with z | ⟨_, z2, z3⟩
      · have m1 : a ∈ f1 := count_mem (Nat.lt_of_lt_of_le (List.count_pos_iff.mpr m) z)
        exact ⟨fnew a (.inl (List.mem_append_left _ m1)), (o a (.inl (List.mem_append_left _ m1))).2⟩
      · exact ⟨z3, I.h0.free z2⟩
    rcases ha with ha | ha
    · rcases List.mem_append.mp ha with ha | ha
      · exact key ha
      · exact ⟨fnew a (.inl (List.mem_append_right _ ha)), (o a (.inl (List.mem_append_right _ ha))).2⟩
    · exact ⟨fnew a (.inr ha), (o a (.inr ha)).2⟩
/-- a group of no own places -/
theorem SIf.push0 (I : SIf K H0 F0 F S ρ σ H) : SIf K H0 F0 F (([], []) :: S) ρ σ H := by
  obtain ⟨f, g, r1, r2, c, o⟩ := I.ex
  exact ⟨I.sub, I.h0, I.f0, I.grow, f, g, ⟨[], f, rfl, ⟨rfl, rfl⟩, r1⟩, r2, c, o⟩
theorem SIf.push (I : SIf K H0 F0 F S ρ σ H) (G : Grows F H F' H') {f' : List Addr} (r : Rps K F' H' ds vs f') (c : ∀ a, f'.count a ≤ 1) (n : ∀ a ∈ f', H a = none ∧ F' a = none) : SIf K H0 F0 F' ((ds, vs) :: S) ρ σ H' :=
  I.push0.top G fun f _ _ _ => ⟨f', r, fun a => by
    by_cases m : a ∈ f'
    · exact .inr ⟨c a, n a m⟩
    · exact .inl (by rw [List.count_eq_zero.mpr m]; exact Nat.zero_le _)⟩
theorem Rps.one {d : D} {v : V} {f : List Addr} (h : Rp K F H d v f) : Rps K F H [d] [v] f := ⟨v, [], f, [], rfl, by simp, h, rfl, rfl⟩
theorem Rps.of_one {d : D} {v : V} {f : List Addr} (h : Rps K F H [d] [v] f) : Rp K F H d v f := by
  obtain ⟨v', vr, f1, f2, e1, e2, e3, e4, e5⟩ := h
  injection e1 with e6 e7
  subst e6 e5 e2
  rw [List.append_nil]
  exact e3
/-- two groups on top are one -/
theorem SIf.join {d : D} {v : V} (I : SIf K H0 F0 F ((ds, vs) :: ([d], [v]) :: S) ρ σ H) : SIf K H0 F0 F ((d :: ds, v :: vs) :: S) ρ σ H := by
  obtain ⟨f, g, ⟨f1, f2, e1, r0, ⟨f3, f4, e2, r3, r4⟩⟩, r2, c, o⟩ := I.ex
  subst e1 e2
  refine ⟨I.sub, I.h0, I.f0, I.grow, (f3 ++ f1) ++ f4, g, ⟨f3 ++ f1, f4, rfl, ⟨v, vs, f3, f1, rfl, rfl, Rps.of_one r3, r0⟩, r4⟩, r2, fun a => ?_, fun a ha => o a ?_⟩
  · have := c a
    simp only [List.count_append] at this ⊢
    omega
  · simp only [List.mem_append] at ha ⊢
    rcases ha with ((h | h) | h) | h
    · exact .inl (.inr (.inl h))
    · exact .inl (.inl h)
    · exact .inl (.inr (.inr h))
    · exact .inr h
end

/-! ### what comes out -/
inductive RE (α : Type) where
  | ok (a : α) (ρ : Env)
  | ex (c : Nat) (ρ : Env)
  | no
inductive RO where
  | nx (ρ : Env)
  | rt (d : D) (ρ : Env)
  | bk (ρ : Env)
  | ct (ρ : Env)
  | ex (c : Nat) (ρ : Env)
  | no
inductive RF where
  | ok (d : D)
  | ex (c : Nat)
  | no
abbrev SE := Env → RE D
abbrev SEs := Env → RE (List D)
abbrev ST := Env → RE Bool
abbrev SS := Env → RO

def WR (K : PySem.W.Frag) (F H : Hp) (d : D) (v : V) : Prop := ∃ f, Rp K F H d v f
theorem WR.mono {K : PySem.W.Frag} {F F' H H' : Hp} {d : D} {v : V} (h : WR K F H d v) (e : Same F F') (k : Same H H') : WR K F' H' d v :=
  let ⟨f, r⟩ := h
  ⟨f, Rp.mono e d v f (fun b _ o q => k b o q) r⟩
/-- Q takes whatever stands for d -/
def Acc (K : PySem.W.Frag) (F H : Hp) (d : D) (Q : VK) : Prop :=
  ∀ w H' F' f, Grows F H F' H' → Rp K F' H' d w f → (∀ a, f.count a ≤ 1) → (∀ a ∈ f, H a = none ∧ F' a = none) → Q w H'

section
variable (K : PySem.W.Frag) (ca : Nat → Addr) (W : WX)
/-- an expression's wish (its value ours to keep) -/
def tE (f : SE) : TE := fun σ H Q => ∃ H0 F0 F S ρ, SIf K H0 F0 F S ρ σ H ∧ match f ρ with
  | .ok d ρ' => ∀ v H' F', Same H H' → Same F F' → SIf K H0 F0 F' (([d], [v]) :: S) ρ' σ H' → Q v H'
  | .ex c ρ' => ∀ H' F', SIf K H0 F0 F' S ρ' σ H' → W (.ref (ca c)) none σ H'
  | .no => False
/-- .. its value to be looked at -/
def tO (f : SE) : TE := fun σ H Q => ∃ H0 F0 F S ρ, SIf K H0 F0 F S ρ σ H ∧ match f ρ with
  | .ok d ρ' => ∀ v H' F', Same H H' → Same F F' → SIf K H0 F0 F' S ρ' σ H' → WR K F' H' d v → Q v H'
  | .ex c ρ' => ∀ H' F', SIf K H0 F0 F' S ρ' σ H' → W (.ref (ca c)) none σ H'
  | .no => False
def tT (f : ST) : TT := fun σ H Q => ∃ H0 F0 F S ρ, SIf K H0 F0 F S ρ σ H ∧ match f ρ with
  | .ok b ρ' => ∀ H' F', Same H H' → Same F F' → SIf K H0 F0 F' S ρ' σ H' → Q b H'
  | .ex c ρ' => ∀ H' F', SIf K H0 F0 F' S ρ' σ H' → W (.ref (ca c)) none σ H'
  | .no => False
/-- arguments: to keep, to be looked at -/
def tEs (f : SEs) : TA := fun σ H Q => ∃ H0 F0 F S ρ, SIf K H0 F0 F S ρ σ H ∧ match f ρ with
  | .ok ds ρ' => ∀ vs H' F', Same H H' → Same F F' → SIf K H0 F0 F' ((ds, vs) :: S) ρ' σ H' → Q vs H'
  | .ex c ρ' => ∀ H' F', SIf K H0 F0 F' S ρ' σ H' → W (.ref (ca c)) none σ H'
  | .no => False
def WRs (F H : Hp) : List D → List V → Prop
  | [], vs => vs = []
  | d :: ds, vs => ∃ v vr, vs = v :: vr ∧ WR K F H d v ∧ WRs F H ds vr
def tOs (f : SEs) : TA := fun σ H Q => ∃ H0 F0 F S ρ, SIf K H0 F0 F S ρ σ H ∧ match f ρ with
  | .ok ds ρ' => ∀ vs H' F', Same H H' → Same F F' → SIf K H0 F0 F' S ρ' σ H' → WRs K F' H' ds vs → Q vs H'
  | .ex c ρ' => ∀ H' F', SIf K H0 F0 F' S ρ' σ H' → W (.ref (ca c)) none σ H'
  | .no => False
def tS (f : SS) : TS := fun D σ H => ∃ H0 F0 F S ρ, SIf K H0 F0 F S ρ σ H ∧ match f ρ with
  | .nx ρ' => ∀ σ' H' F', Same F F' → SIf K H0 F0 F' S ρ' σ' H' → D.nx σ' H'
  | .rt d ρ' => ∀ v σ' H' F', Same F F' → SIf K H0 F0 F' (([d], [v]) :: S) ρ' σ' H' → D.rt v H'
  | .bk ρ' => ∀ σ' H' F', Same F F' → SIf K H0 F0 F' S ρ' σ' H' → D.bk σ' H'
  | .ct ρ' => ∀ σ' H' F', Same F F' → SIf K H0 F0 F' S ρ' σ' H' → D.ct σ' H'
  | .ex c ρ' => ∀ σ' H' F', SIf K H0 F0 F' S ρ' σ' H' → W (.ref (ca c)) none σ' H'
  | .no => False
/-- a target takes a datum -/
def tG (g : D → Env → Option Env) : TG := fun v σ H Q => ∃ H0 F0 F S ρ d, SIf K H0 F0 F (([d], [v]) :: S) ρ σ H ∧ match g d ρ with
  | some ρ' => ∀ σ' H' F', Same F F' → SIf K H0 F0 F' S ρ' σ' H' → Q σ' H'
  | none => False
end
theorem WRs.mono {K : PySem.W.Frag} {F F' H H' : Hp} (e : Same F F') (k : Same H H') : ∀ {ds : List D} {vs : List V}, WRs K F H ds vs → WRs K F' H' ds vs
  | [], _, h => h
  | _ :: _, _, h => by
    obtain ⟨v, vr, e1, e2, e3⟩ := h
    exact ⟨v, vr, e1, e2.mono e k, WRs.mono e k e3⟩

theorem _root_.L2.PE.qimp {X : Cx} {e : Expr} {t t' : TE} (h : PE X e t) (i : ∀ σ H Q, t' σ H Q → t σ H Q) : PE X e t' := ⟨fun pins s σ H Q I q => h.run pins s σ H Q I (i σ H Q q)⟩
theorem _root_.L2.PT.qimp {X : Cx} {e : Expr} {t t' : TT} (h : PT X e t) (i : ∀ σ H Q, t' σ H Q → t σ H Q) : PT X e t' := ⟨fun pins s σ H Q I q => h.run pins s σ H Q I (i σ H Q q)⟩
theorem _root_.L2.PW.qimp {X : Cx} {e : Expr} {t t' : TT} (h : PW X e t) (i : ∀ σ H Q, t' σ H Q → t σ H Q) : PW X e t' := ⟨fun wh pins s σ H Q I q => h.run wh pins s σ H Q I (i σ H Q q)⟩
theorem _root_.L2.PA.qimp {X : Cx} {e : List Expr} {t t' : TA} (h : PA X e t) (i : ∀ σ H Q, t' σ H Q → t σ H Q) : PA X e t' := ⟨fun pos pins s σ H Q I q => h.run pos pins s σ H Q I (i σ H Q q)⟩
theorem _root_.L2.PS.qimp {X : Cx} {e : Stmt} {t t' : TS} (h : PS X e t) (i : ∀ D σ H, t' D σ H → t D σ H) : PS X e t' := ⟨fun pins s σ H D I q => h.run pins s σ H D I (i D σ H q)⟩
theorem _root_.L2.PSs.qimp {X : Cx} {e : List Stmt} {t t' : TS} (h : PSs X e t) (i : ∀ D σ H, t' D σ H → t D σ H) : PSs X e t' := ⟨fun pins s σ H D I q => h.run pins s σ H D I (i D σ H q)⟩
theorem _root_.L2.PG.qimp {X : Cx} {e : Expr} {t t' : TG} (h : PG X e t) (i : ∀ v σ H Q, t' v σ H Q → t v σ H Q) : PG X e t' := ⟨fun pins s σ H v u Q I r q => h.run pins s σ H v u Q I r (i v σ H Q q)⟩
end OL

namespace OL
open PySem PySem.Spec PyProof.Rows L2
section
variable {K : PySem.W.Frag} {H0 F0 F F' H H' : Hp} {S : Stk} {ρ : Env} {σ : List (Option V)} {ds ds' : List D} {vs vs' : List V} {d : D} {v : V} {i : Nat}
theorem set_same {α : Type} : ∀ {l : List α} {i : Nat} {x : α}, l[i]? = some x → l.set i x = l
  | [], i, x, h => by simp at h
  | y :: l, 0, x, h => by
    have : y = x := by simpa using h
    subst this; rfl
  | y :: l, i + 1, x, h => by
    have : l[i]? = some x := by simpa using h
    show y :: l.set i x = y :: l
    rw [set_same this]
theorem lt_of_get {α : Type} {l : List α} {i : Nat} {x : α} (h : l[i]? = some x) : i < l.length := (List.getElem?_eq_some_iff.mp h).1
theorem SIf.peek (I : SIf K H0 F0 F S ρ σ H) (hi : ρ[i]? = some (some d)) : ∃ v, σ[i]? = some (some v) ∧ WR K F H d v := by
  obtain ⟨f, g, r1, r2, c, o⟩ := I.ex
  obtain ⟨g1, rest, c1, c2, c3, c4⟩ := RL.slot ρ σ g i r2 (lt_of_get hi)
  obtain ⟨v, e, r⟩ := c2 d hi
  exact ⟨v, e, g1, r⟩
theorem SIf.nonev (I : SIf K H0 F0 F S ρ σ H) (h : d.owns = false) (w : WR K F H d v) : Rp K F H d v [] := by
  obtain ⟨f, r⟩ := w
  have := Rp.none d v f h r
  rw [this] at r
  exact r
/-- freezing what has the own places f -/
def FF (F H : Hp) (f : List Addr) : Hp := fun a => if a ∈ f then H a else F a
theorem FF.grows {F H : Hp} {f : List Addr} (h : Same F H) : Same F (FF F H f) := fun a o e => by
  unfold FF
  split
  · exact h a o e
  · exact e
theorem FF.sub {F H : Hp} {f : List Addr} (h : Same F H) : Same (FF F H f) H := fun a o e => by
  unfold FF at e
  split at e
  · exact e
  · exact h a o e
theorem FF.at {F H : Hp} {f : List Addr} {a : Addr} (m : a ∈ f) : FF F H f a = H a := if_pos m
theorem FF.off {F H : Hp} {f : List Addr} {a : Addr} (m : a ∉ f) : FF F H f a = F a := if_neg m
/-- the slot is frozen, its datum comes on top -/
theorem SIf.take (I : SIf K H0 F0 F S ρ σ H) (hi : ρ[i]? = some (some d)) : ∃ v F', σ[i]? = some (some v) ∧ Same F F' ∧ SIf K H0 F0 F' (([d.frz], [v]) :: S) (ρ.set i (some d.frz)) σ H := by
  obtain ⟨f, g, r1, r2, c, o⟩ := I.ex
  obtain ⟨g1, rest, c1, c2, c3, c4⟩ := RL.slot ρ σ g i r2 (lt_of_get hi)
  obtain ⟨v, e, r⟩ := c2 d hi
  have sF : Same F (FF F H g1) := FF.grows I.sub
  have r' : Rp K (FF F H g1) H d.frz v [] := Rp.frz sF d v g1 (fun b hb x q => by rw [FF.at hb]; exact q) r
  obtain ⟨g', q1, q2⟩ := c3 (FF F H g1) H sF (fun _ _ _ q => q) d.frz v [] r'
  have inG : ∀ a, a ∈ g1 → a ∈ g := fun a m => count_mem (by have := c1 a; have := List.count_pos_iff.mpr m; omega)
  rw [set_same e] at q1
  refine ⟨v, FF F H g1, e, sF, FF.sub I.sub, I.h0, I.f0.trans sF, fun a x q hm => ?_, f, g', ⟨[], f, rfl, Rps.one r', RS.mono sF S f (fun _ _ _ q => q) r1⟩, q1, fun a => ?_, fun a ha => ?_⟩
  · by_cases m : a ∈ g1
    · rw [(o a (.inr (inG a m))).2] at q; cases q
    · rw [FF.off m]
      exact I.grow a x q hm
  · have := c a
    have := c1 a
    have := q2 a
    simp only [List.count_nil] at this
    omega
  · have fresh : a ∉ g1 ∧ (a ∈ f ∨ a ∈ g) := by
      rcases ha with ha | ha
      · refine ⟨fun m => ?_, .inl ha⟩
        have := c a
        have := List.count_pos_iff.mpr ha
        have := List.count_pos_iff.mpr (inG a m)
        omega
      · have p := List.count_pos_iff.mpr ha
        have := q2 a
        have := c1 a
        have := c a
        simp only [List.count_nil] at *
        refine ⟨fun m => ?_, .inr (count_mem (by omega))⟩
        have := List.count_pos_iff.mpr m
        omega
    rw [FF.off fresh.1]
    exact o a fresh.2
/-- the top's datum is frozen -/
theorem SIf.frzTop (I : SIf K H0 F0 F ((ds, vs) :: S) ρ σ H) : ∃ F', Same F F' ∧ SIf K H0 F0 F' ((D.frzs ds, vs) :: S) ρ σ H := by
  obtain ⟨f, g, ⟨f1, f2, e1, r0, r1⟩, r2, c, o⟩ := I.ex
  subst e1
  have sF : Same F (FF F H f1) := FF.grows I.sub
  refine ⟨FF F H f1, sF, FF.sub I.sub, I.h0, I.f0.trans sF, fun a x q hm => ?_, f2, g, ⟨[], f2, rfl, Rps.frz sF ds vs f1 (fun b hb x q => by rw [FF.at hb]; exact q) r0, RS.mono sF S f2 (fun _ _ _ q => q) r1⟩, RL.mono sF ρ σ g (fun _ _ _ q => q) r2, fun a => ?_, fun a ha => ?_⟩
  · by_cases m : a ∈ f1
    · rw [(o a (.inl (List.mem_append_left _ m))).2] at q; cases q
    · rw [FF.off m]
      exact I.grow a x q hm
  · have := c a
    rw [List.count_append] at this
    omega
  · have cc := c a
    rw [List.count_append] at cc
    have no : a ∉ f1 := fun m => by
      have := List.count_pos_iff.mpr m
      rcases ha with h | h
      · have := List.count_pos_iff.mpr h
        omega
      · have := List.count_pos_iff.mpr h
        omega
    rw [FF.off no]
    exact o a (ha.imp (fun z => List.mem_append_right _ z) id)
/-- the top's datum goes to a slot -/
theorem SIf.write (I : SIf K H0 F0 F (([d], [v]) :: S) ρ σ H) (hi : i < ρ.length) : SIf K H0 F0 F S (ρ.set i (some d)) (σ.set i (some v)) H := by
  obtain ⟨f, g, ⟨f1, f2, e1, r0, r1⟩, r2, c, o⟩ := I.ex
  subst e1
  obtain ⟨g1, rest, c1, c2, c3, c4⟩ := RL.slot ρ σ g i r2 hi
  obtain ⟨g', q1, q2⟩ := c3 F H (Same.refl _) (fun _ _ _ q => q) d v f1 (Rps.of_one r0)
  refine ⟨I.sub, I.h0, I.f0, I.grow, f2, g', r1, q1, fun a => ?_, fun a ha => ?_⟩
  · have := c a
    have := c1 a
    have := q2 a
    rw [List.count_append] at *
    omega
  · refine o a ?_
    rcases ha with h | h
    · exact .inl (List.mem_append_right _ h)
    · have := List.count_pos_iff.mpr h
      have := q2 a
      have := c1 a
      by_cases m : a ∈ f1
      · exact .inl (List.mem_append_left _ m)
      · have := List.count_eq_zero.mpr m
        exact .inr (count_mem (by omega))
/-- a slot is forgotten -/
theorem SIf.forget (I : SIf K H0 F0 F S ρ σ H) (hi : i < ρ.length) (x : Option V) : SIf K H0 F0 F S (ρ.set i none) (σ.set i x) H := by
  obtain ⟨f, g, r1, r2, c, o⟩ := I.ex
  obtain ⟨g1, rest, c1, c2, c3, c4⟩ := RL.slot ρ σ g i r2 hi
  refine ⟨I.sub, I.h0, I.f0, I.grow, f, rest, r1, c4 F H (Same.refl _) (fun _ _ _ q => q) x, fun a => ?_, fun a ha => o a (ha.imp id fun z => ?_)⟩
  · have := c a
    have := c1 a
    omega
  · have := c1 a
    have := List.count_pos_iff.mpr z
    exact count_mem (by omega)
/-- the object of a slot is changed; what stood on top goes into it -/
theorem SIf.mutO {xs : List D} {ws : List V} (I : SIf K H0 F0 F ((xs, ws) :: S) ρ σ H) (hi : ρ[i]? = some (some d)) (root : ∀ v f, Rp K F H d v f → ∃ a g, v = .ref a ∧ f = a :: g) :
    ∃ a g f0, σ[i]? = some (some (.ref a)) ∧ Rp K F H d (.ref a) (a :: g) ∧ Rps K F H xs ws f0 ∧ a ∉ g ∧ a ∉ f0 ∧
      ∀ d' o' g', Rp K F (upd H a o') d' (.ref a) (a :: g') → (∀ b, g'.count b ≤ g.count b + f0.count b) → SIf K H0 F0 F S (ρ.set i (some d')) σ (upd H a o') := by
  obtain ⟨f, g, ⟨f1, f2, e1, r0, r1⟩, r2, c, o⟩ := I.ex
  subst e1
  obtain ⟨g1, rest, c1, c2, c3, c4⟩ := RL.slot ρ σ g i r2 (lt_of_get hi)
  obtain ⟨v, e, r⟩ := c2 d hi
  obtain ⟨a, g0, rfl, rfl⟩ := root v g1 r
  have ca := c a
  have c1a := c1 a
  rw [List.count_append] at ca
  rw [List.count_cons_self] at c1a
  have nz : ∀ {l : List Addr}, l.count a = 0 → a ∉ l := fun z => List.count_eq_zero.mp z
  have a1 : a ∉ f1 := nz (by omega)
  have a2 : a ∉ f2 := nz (by omega)
  have a3 : a ∉ g0 := nz (by omega)
  have a4 : a ∉ rest := nz (by omega)
  have ag : a ∈ g := count_mem (by omega)
  obtain ⟨oF, oH⟩ := o a (.inr ag)
  refine ⟨a, g0, f1, e, r, r0, a3, a1, fun d' o' g' r' hc => ?_⟩
  have st : ∀ {l : List Addr}, a ∉ l → ∀ b ∈ l, ∀ x, H b = some x → upd H a o' b = some x := fun {l} n b hb x q => by
    rw [upd_ne (show b ≠ a from fun z => n (z ▸ hb))]
    exact q
  obtain ⟨g2, q1, q2⟩ := c3 F (upd H a o') (Same.refl _) (st a4) d' (.ref a) (a :: g') r'
  rw [set_same e] at q1
  have keep : ∀ {G : Hp}, Same G H → G a = none → Same G (upd H a o') := fun {G} s n b x q => by
    rw [upd_ne (show b ≠ a from fun z => by rw [z, n] at q; cases q)]
    exact s b x q
  refine ⟨keep I.sub oF, keep I.h0 oH, I.f0, I.grow, f2, g2, RS.mono (Same.refl _) S f2 (st a2) r1, q1, fun b => ?_, fun b hb => ?_⟩
  · have h1 := c b
    have h2 := c1 b
    have h3 := q2 b
    have h4 := hc b
    rw [List.count_append] at h1
    rw [List.count_cons] at h2 h3
    omega
  · refine o b ?_
    rcases hb with h | h
    · exact .inl (List.mem_append_right _ h)
    · have h1 := List.count_pos_iff.mpr h
      have h2 := c1 b
      have h3 := q2 b
      have h4 := hc b
      rw [List.count_cons] at h2 h3
      by_cases m : b ∈ f1
      · exact .inl (List.mem_append_left _ m)
      · have := List.count_eq_zero.mpr m
        exact .inr (count_mem (by omega))
theorem root_lst {v : V} {f : List Addr} (h : Rp K F H (.lst true ds) v f) : ∃ a g, v = .ref a ∧ f = a :: g := by
  obtain ⟨a, vs, g, e1, e2, e3, e4⟩ := h
  exact ⟨a, g, e1, e4⟩
theorem root_dct {kvs : List (List Key × D)} {v : V} {f : List Addr} (h : Rp K F H (.dct true kvs) v f) : ∃ a g, v = .ref a ∧ f = a :: g := by
  obtain ⟨a, vs, g, e1, e2, e3, e4⟩ := h
  exact ⟨a, g, e1, e4⟩
/-- a list of a slot is changed -/
theorem SIf.mutL {xs : List D} {ws : List V} (I : SIf K H0 F0 F ((xs, ws) :: S) ρ σ H) (hi : ρ[i]? = some (some (.lst true ds))) :
    ∃ a vs, σ[i]? = some (some (.ref a)) ∧ H a = some (.lst vs) ∧ (∃ g, Rps K F H ds vs g) ∧ (∃ g, Rps K F H xs ws g) ∧
      ∀ ds' vs', (∀ F H f g, Rps K F H ds vs g → Rps K F H xs ws f → ∃ g', Rps K F H ds' vs' g' ∧ ∀ b, g'.count b ≤ g.count b + f.count b) →
        SIf K H0 F0 F S (ρ.set i (some (.lst true ds'))) σ (upd H a (.lst vs')) := by
  obtain ⟨a, g, f0, e, r, r0, n1, n2, k⟩ := I.mutO hi fun _ _ => root_lst
  obtain ⟨a', vs, g1, e1, e2, e3, e4⟩ := r
  cases e1
  injection e4 with _ e4
  subst e4
  refine ⟨a, vs, e, e2, ⟨g, e3⟩, ⟨f0, r0⟩, fun ds' vs' h => ?_⟩
  have st : ∀ {l : List Addr}, a ∉ l → ∀ b ∈ l, ∀ x, H b = some x → upd H a (.lst vs') b = some x := fun {l} n b hb x q => by
    rw [upd_ne (show b ≠ a from fun z => n (z ▸ hb))]
    exact q
  obtain ⟨g', q1, q2⟩ := h F (upd H a (.lst vs')) f0 g (Rps.mono (Same.refl _) ds vs g (st n1) e3) (Rps.mono (Same.refl _) xs ws f0 (st n2) r0)
  exact k (.lst true ds') (.lst vs') g' ⟨a, vs', g', rfl, upd_same, q1, rfl⟩ q2
/-- a dict of a slot is changed -/
theorem SIf.mutD {xs : List D} {ws : List V} {kvs : List (List Key × D)} (I : SIf K H0 F0 F ((xs, ws) :: S) ρ σ H) (hi : ρ[i]? = some (some (.dct true kvs))) :
    ∃ a vs, σ[i]? = some (some (.ref a)) ∧ H a = some (.dT vs) ∧ (∃ g, Rpk K F H kvs vs g) ∧ (∃ g, Rps K F H xs ws g) ∧
      ∀ kvs' vs', (∀ F H f g, Rpk K F H kvs vs g → Rps K F H xs ws f → ∃ g', Rpk K F H kvs' vs' g' ∧ ∀ b, g'.count b ≤ g.count b + f.count b) →
        SIf K H0 F0 F S (ρ.set i (some (.dct true kvs'))) σ (upd H a (.dT vs')) := by
  obtain ⟨a, g, f0, e, r, r0, n1, n2, k⟩ := I.mutO hi fun _ _ => root_dct
  obtain ⟨a', vs, g1, e1, e2, e3, e4⟩ := r
  cases e1
  injection e4 with _ e4
  subst e4
  refine ⟨a, vs, e, e2, ⟨g, e3⟩, ⟨f0, r0⟩, fun ds' vs' h => ?_⟩
  have st : ∀ {l : List Addr}, a ∉ l → ∀ b ∈ l, ∀ x, H b = some x → upd H a (.dT vs') b = some x := fun {l} n b hb x q => by
    rw [upd_ne (show b ≠ a from fun z => n (z ▸ hb))]
    exact q
  obtain ⟨g', q1, q2⟩ := h F (upd H a (.dT vs')) f0 g (Rpk.mono (Same.refl _) kvs vs g (st n1) e3) (Rps.mono (Same.refl _) xs ws f0 (st n2) r0)
  exact k (.dct true ds') (.dT vs') g' ⟨a, vs', g', rfl, upd_same, q1, rfl⟩ q2
end
end OL

namespace OL
open PySem PySem.Spec L2

def RE.bind {α β : Type} (r : RE α) (k : α → Env → RE β) : RE β := match r with
  | .ok a ρ => k a ρ
  | .ex c ρ => .ex c ρ
  | .no => .no
def RE.of {α : Type} (o : Option α) (ρ : Env) : RE α := match o with
  | some a => .ok a ρ
  | none => .no
@[simp] theorem RE.bind_ok {α β : Type} (a : α) (ρ : Env) (k : α → Env → RE β) : (RE.ok a ρ).bind k = k a ρ := rfl
@[simp] theorem RE.bind_ex {α β : Type} (c : Nat) (ρ : Env) (k : α → Env → RE β) : (RE.ex c ρ).bind k = .ex c ρ := rfl
@[simp] theorem RE.bind_no {α β : Type} (k : α → Env → RE β) : (RE.no).bind k = .no := rfl
@[simp] theorem RE.of_some {α : Type} (a : α) (ρ : Env) : RE.of (some a) ρ = .ok a ρ := rfl
@[simp] theorem RE.of_none {α : Type} (ρ : Env) : RE.of (none : Option α) ρ = .no := rfl

abbrev QE (X : Cx) (ca : Nat → Addr) (W : WX) (e : Expr) (f : SE) : Prop := PE X e (tE X.K ca W f)
abbrev QO (X : Cx) (ca : Nat → Addr) (W : WX) (e : Expr) (f : SE) : Prop := PE X e (tO X.K ca W f)
abbrev QT (X : Cx) (ca : Nat → Addr) (W : WX) (e : Expr) (f : ST) : Prop := PT X e (tT X.K ca W f)
abbrev QW (X : Cx) (ca : Nat → Addr) (W : WX) (e : Expr) (f : ST) : Prop := PW X e (tT X.K ca W f)
abbrev QEs (X : Cx) (ca : Nat → Addr) (W : WX) (e : List Expr) (f : SEs) : Prop := PA X e (tEs X.K ca W f)
abbrev QOs (X : Cx) (ca : Nat → Addr) (W : WX) (e : List Expr) (f : SEs) : Prop := PA X e (tOs X.K ca W f)
abbrev QS (X : Cx) (ca : Nat → Addr) (W : WX) (st : Stmt) (f : SS) : Prop := PS X st (tS X.K ca W f)
abbrev QSs (X : Cx) (ca : Nat → Addr) (W : WX) (st : List Stmt) (f : SS) : Prop := PSs X st (tS X.K ca W f)

section
variable {K : PySem.W.Frag} {H0 F0 F F' H H' : Hp} {S : Stk} {ρ : Env} {σ : St} {d : D} {v : V} {ca : Nat → Addr} {W : WX}
/-- a value that owns nothing comes on top -/
theorem SIf.imm (I : SIf K H0 F0 F S ρ σ H) (r : Rp K F H d v []) : SIf K H0 F0 F (([d], [v]) :: S) ρ σ H := I.push I.self (Rps.one r) (fun _ => by simp) (fun _ z => nomatch z)
theorem SIf.acc {Q : VK} (I : SIf K H0 F0 F S ρ σ H) (h : ∀ v H' F', Same H H' → Same F F' → SIf K H0 F0 F' (([d], [v]) :: S) ρ σ H' → Q v H') : Acc K F H d Q := fun w H' F' f G r c n =>
  h w H' F' G.hh G.ff (I.push G (Rps.one r) c n)
/-- a wish's parts -/
theorem tE.intro {f : SE} {Q : VK} (I : SIf K H0 F0 F S ρ σ H) (h : match f ρ with
  | .ok d ρ' => ∀ v H' F', Same H H' → Same F F' → SIf K H0 F0 F' (([d], [v]) :: S) ρ' σ H' → Q v H'
  | .ex c ρ' => ∀ H' F', SIf K H0 F0 F' S ρ' σ H' → W (.ref (ca c)) none σ H'
  | .no => False) : tE K ca W f σ H Q := ⟨H0, F0, F, S, ρ, I, h⟩
theorem tO.intro {f : SE} {Q : VK} (I : SIf K H0 F0 F S ρ σ H) (h : match f ρ with
  | .ok d ρ' => ∀ v H' F', Same H H' → Same F F' → SIf K H0 F0 F' S ρ' σ H' → WR K F' H' d v → Q v H'
  | .ex c ρ' => ∀ H' F', SIf K H0 F0 F' S ρ' σ H' → W (.ref (ca c)) none σ H'
  | .no => False) : tO K ca W f σ H Q := ⟨H0, F0, F, S, ρ, I, h⟩
/-- first an expression, then the rest -/
theorem tE.go {α : Type} {f : SE} {k : D → Env → RE α} {Q : VK} {G : RE α → Prop} (I : SIf K H0 F0 F S ρ σ H) (h : G ((f ρ).bind k))
    (hex : ∀ c ρ', G (.ex c ρ') → ∀ H' F', SIf K H0 F0 F' S ρ' σ H' → W (.ref (ca c)) none σ H') (hno : ¬ G .no)
    (hok : ∀ d ρ' v H' F', G (k d ρ') → Same H H' → Same F F' → SIf K H0 F0 F' (([d], [v]) :: S) ρ' σ H' → Q v H') : tE K ca W f σ H Q := by
  refine tE.intro I ?_
  cases e : f ρ with
  | ok d ρ' => rw [e] at h; exact fun v H' F' s1 s2 J => hok d ρ' v H' F' h s1 s2 J
  | ex c ρ' => rw [e] at h; exact hex c ρ' h
  | no => rw [e] at h; exact hno h
theorem tO.go {α : Type} {f : SE} {k : D → Env → RE α} {Q : VK} {G : RE α → Prop} (I : SIf K H0 F0 F S ρ σ H) (h : G ((f ρ).bind k))
    (hex : ∀ c ρ', G (.ex c ρ') → ∀ H' F', SIf K H0 F0 F' S ρ' σ H' → W (.ref (ca c)) none σ H') (hno : ¬ G .no)
    (hok : ∀ d ρ' v H' F', G (k d ρ') → Same H H' → Same F F' → SIf K H0 F0 F' S ρ' σ H' → WR K F' H' d v → Q v H') : tO K ca W f σ H Q := by
  refine tO.intro I ?_
  cases e : f ρ with
  | ok d ρ' => rw [e] at h; exact fun v H' F' s1 s2 J w => hok d ρ' v H' F' h s1 s2 J w
  | ex c ρ' => rw [e] at h; exact hex c ρ' h
  | no => rw [e] at h; exact hno h
theorem tT.go {α : Type} {f : ST} {k : Bool → Env → RE α} {Q : Bool → Hp → Prop} {G : RE α → Prop} (I : SIf K H0 F0 F S ρ σ H) (h : G ((f ρ).bind k))
    (hex : ∀ c ρ', G (.ex c ρ') → ∀ H' F', SIf K H0 F0 F' S ρ' σ H' → W (.ref (ca c)) none σ H') (hno : ¬ G .no)
    (hok : ∀ b ρ' H' F', G (k b ρ') → Same H H' → Same F F' → SIf K H0 F0 F' S ρ' σ H' → Q b H') : tT K ca W f σ H Q := by
  refine ⟨H0, F0, F, S, ρ, I, ?_⟩
  cases e : f ρ with
  | ok d ρ' => rw [e] at h; exact fun H' F' s1 s2 J => hok d ρ' H' F' h s1 s2 J
  | ex c ρ' => rw [e] at h; exact hex c ρ' h
  | no => rw [e] at h; exact hno h
theorem tEs.go {α : Type} {f : SEs} {k : List D → Env → RE α} {Q : List V → Hp → Prop} {G : RE α → Prop} (I : SIf K H0 F0 F S ρ σ H) (h : G ((f ρ).bind k))
    (hex : ∀ c ρ', G (.ex c ρ') → ∀ H' F', SIf K H0 F0 F' S ρ' σ H' → W (.ref (ca c)) none σ H') (hno : ¬ G .no)
    (hok : ∀ ds ρ' vs H' F', G (k ds ρ') → Same H H' → Same F F' → SIf K H0 F0 F' ((ds, vs) :: S) ρ' σ H' → Q vs H') : tEs K ca W f σ H Q := by
  refine ⟨H0, F0, F, S, ρ, I, ?_⟩
  cases e : f ρ with
  | ok d ρ' => rw [e] at h; exact fun v H' F' s1 s2 J => hok d ρ' v H' F' h s1 s2 J
  | ex c ρ' => rw [e] at h; exact hex c ρ' h
  | no => rw [e] at h; exact hno h
theorem tOs.go {α : Type} {f : SEs} {k : List D → Env → RE α} {Q : List V → Hp → Prop} {G : RE α → Prop} (I : SIf K H0 F0 F S ρ σ H) (h : G ((f ρ).bind k))
    (hex : ∀ c ρ', G (.ex c ρ') → ∀ H' F', SIf K H0 F0 F' S ρ' σ H' → W (.ref (ca c)) none σ H') (hno : ¬ G .no)
    (hok : ∀ ds ρ' vs H' F', G (k ds ρ') → Same H H' → Same F F' → SIf K H0 F0 F' S ρ' σ H' → WRs K F' H' ds vs → Q vs H') : tOs K ca W f σ H Q := by
  refine ⟨H0, F0, F, S, ρ, I, ?_⟩
  cases e : f ρ with
  | ok d ρ' => rw [e] at h; exact fun v H' F' s1 s2 J w => hok d ρ' v H' F' h s1 s2 J w
  | ex c ρ' => rw [e] at h; exact hex c ρ' h
  | no => rw [e] at h; exact hno h
end
/-- what a wish asks of a result -/
abbrev GE (K : PySem.W.Frag) (ca : Nat → Addr) (W : WX) (H0 F0 : Hp) (S : Stk) (σ : St) (H F : Hp) (Q : VK) (r : RE D) : Prop := match r with
  | .ok d ρ' => ∀ v H' F', Same H H' → Same F F' → SIf K H0 F0 F' (([d], [v]) :: S) ρ' σ H' → Q v H'
  | .ex c ρ' => ∀ H' F', SIf K H0 F0 F' S ρ' σ H' → W (.ref (ca c)) none σ H'
  | .no => False
abbrev GO (K : PySem.W.Frag) (ca : Nat → Addr) (W : WX) (H0 F0 : Hp) (S : Stk) (σ : St) (H F : Hp) (Q : VK) (r : RE D) : Prop := match r with
  | .ok d ρ' => ∀ v H' F', Same H H' → Same F F' → SIf K H0 F0 F' S ρ' σ H' → WR K F' H' d v → Q v H'
  | .ex c ρ' => ∀ H' F', SIf K H0 F0 F' S ρ' σ H' → W (.ref (ca c)) none σ H'
  | .no => False
abbrev GT (K : PySem.W.Frag) (ca : Nat → Addr) (W : WX) (H0 F0 : Hp) (S : Stk) (σ : St) (H F : Hp) (Q : Bool → Hp → Prop) (r : RE Bool) : Prop := match r with
  | .ok b ρ' => ∀ H' F', Same H H' → Same F F' → SIf K H0 F0 F' S ρ' σ H' → Q b H'
  | .ex c ρ' => ∀ H' F', SIf K H0 F0 F' S ρ' σ H' → W (.ref (ca c)) none σ H'
  | .no => False
abbrev GEs (K : PySem.W.Frag) (ca : Nat → Addr) (W : WX) (H0 F0 : Hp) (S : Stk) (σ : St) (H F : Hp) (Q : List V → Hp → Prop) (r : RE (List D)) : Prop := match r with
  | .ok ds ρ' => ∀ vs H' F', Same H H' → Same F F' → SIf K H0 F0 F' ((ds, vs) :: S) ρ' σ H' → Q vs H'
  | .ex c ρ' => ∀ H' F', SIf K H0 F0 F' S ρ' σ H' → W (.ref (ca c)) none σ H'
  | .no => False
abbrev GOs (K : PySem.W.Frag) (ca : Nat → Addr) (W : WX) (H0 F0 : Hp) (S : Stk) (σ : St) (H F : Hp) (Q : List V → Hp → Prop) (r : RE (List D)) : Prop := match r with
  | .ok ds ρ' => ∀ vs H' F', Same H H' → Same F F' → SIf K H0 F0 F' S ρ' σ H' → WRs K F' H' ds vs → Q vs H'
  | .ex c ρ' => ∀ H' F', SIf K H0 F0 F' S ρ' σ H' → W (.ref (ca c)) none σ H'
  | .no => False

section
variable {X : Cx} {ca : Nat → Addr} {W : WX} {pos : Pos}
/-- its value looked at -/
theorem x_o {e : Expr} {f : SE} (h : QE X ca W e f) : QO X ca W e f := h.qimp fun σ H Q ⟨H0, F0, F, S, ρ, I, g⟩ => tE.intro I (by
  cases e : f ρ with
  | ok d ρ' =>
    rw [e] at g
    intro v H' F' s1 s2 J
    obtain ⟨f', g', ⟨f1, f2, e1, r0, r1⟩, _⟩ := J.ex
    exact g v H' F' s1 s2 J.pop ⟨f1, Rps.of_one r0⟩
  | ex c ρ' => rw [e] at g; exact g
  | no => rw [e] at g; exact g)
/-! ### constants and names -/
def e_c (d : D) : SE := fun ρ => .ok d ρ
theorem x_c {e : Expr} {d : D} {v : V} (h : PE X e (tC v)) (r : ∀ F H, Rp X.K F H d v []) : QE X ca W e (e_c d) := h.qimp fun σ H Q ⟨H0, F0, F, S, ρ, I, g⟩ => g v H F (Same.refl _) (Same.refl _) (I.imm (r F H))
theorem x_int {i : Int} {j : Nat} : QE X ca W (.Constant (.int i) j pos) (e_c (.int i)) := x_c pe_int fun _ _ => ⟨rfl, rfl⟩
theorem x_bl {b : Bool} {j : Nat} : QE X ca W (.Constant (.bool b) j pos) (e_c (.bl b)) := x_c pe_bl fun _ _ => ⟨rfl, rfl⟩
theorem x_non {j : Nat} : QE X ca W (.Constant .none j pos) (e_c .non) := x_c pe_non fun _ _ => ⟨rfl, rfl⟩
theorem x_str {x : Str} {j : Nat} : QE X ca W (.Constant (.str x) j pos) (e_c (.str x)) := x_c pe_str fun _ _ => ⟨rfl, rfl⟩
def e_var (i : Nat) : SE := fun ρ => match ρ[i]? with
  | some (some d) => .ok d.frz (ρ.set i (some d.frz))
  | _ => .no
def e_peek (i : Nat) : SE := fun ρ => match ρ[i]? with
  | some (some d) => .ok d ρ
  | _ => .no
theorem x_var {e : Expr} (i : Nat) (h : PE X e (tVar i)) : QE X ca W e (e_var i) := h.qimp fun σ H Q ⟨H0, F0, F, S, ρ, I, g⟩ => by
  unfold e_var at g
  cases e : ρ[i]? with
  | none => rw [e] at g; exact g.elim
  | some o =>
    rw [e] at g
    cases o with
    | none => exact g.elim
    | some d =>
      obtain ⟨v, F', e1, s, J⟩ := I.take e
      exact ⟨v, e1, g v H F' (Same.refl _) s J⟩
theorem x_peek {e : Expr} (i : Nat) (h : PE X e (tVar i)) : QO X ca W e (e_peek i) := h.qimp fun σ H Q ⟨H0, F0, F, S, ρ, I, g⟩ => by
  unfold e_peek at g
  cases e : ρ[i]? with
  | none => rw [e] at g; exact g.elim
  | some o =>
    rw [e] at g
    cases o with
    | none => exact g.elim
    | some d =>
      obtain ⟨v, e1, w⟩ := I.peek e
      exact ⟨v, e1, g v H F (Same.refl _) (Same.refl _) I w⟩

/-! ### operators -/
def OpS (X : Cx) (op : Value → Value → Sem Value) (g : D → D → Option D) : Prop :=
  ∃ r, OpR X op r ∧ ∀ F H d1 d2 d x y Q, Same F H → WR X.K F H d1 x → WR X.K F H d2 y → g d1 d2 = some d → Acc X.K F H d Q → r x y H Q
def UnS (X : Cx) (op : Value → Sem Value) (g : D → Option D) : Prop :=
  ∃ r, UnR X op r ∧ ∀ F H d1 d x Q, Same F H → WR X.K F H d1 x → g d1 = some d → Acc X.K F H d Q → r x H Q
def e_op (g : D → D → Option D) (fa fb : SE) : SE := fun ρ => (fa ρ).bind fun x ρ1 => (fb ρ1).bind fun y ρ2 => .of (g x y) ρ2
def e_un (g : D → Option D) (fa : SE) : SE := fun ρ => (fa ρ).bind fun x ρ1 => .of (g x) ρ1
theorem ge_of {K : PySem.W.Frag} {H0 F0 F H F1 H1 F2 H2 : Hp} {S : Stk} {σ : St} {ρ : Env} {Q : VK} {o : Option D} (h : GE K ca W H0 F0 S σ H F Q (.of o ρ)) (s1 : Same H H1) (s2 : Same F F1) (I : SIf K H0 F0 F1 S ρ σ H1) : ∃ d, o = some d ∧ Acc K F1 H1 d Q := by
  cases o with
  | none => exact h.elim
  | some d => exact ⟨d, rfl, I.acc fun v H' F' t1 t2 J => h v H' F' (s1.trans t1) (s2.trans t2) J⟩
theorem op_imp {fa fb : SE} {g : D → D → Option D} {r : R2} (hr : ∀ F H d1 d2 d x y Q, Same F H → WR X.K F H d1 x → WR X.K F H d2 y → g d1 d2 = some d → Acc X.K F H d Q → r x y H Q)
    (σ : St) (H : Hp) (Q : VK) (h : tE X.K ca W (e_op g fa fb) σ H Q) : tOp r (tO X.K ca W fa) (tO X.K ca W fb) σ H Q := by
  obtain ⟨H0, F0, F, S, ρ, I, h⟩ := h
  refine tO.go (G := GE X.K ca W H0 F0 S σ H F Q) I h (fun c ρ' z => z) (fun z => z) fun x ρ1 v H1 F1 h1 s1 s2 I1 w1 => ?_
  refine tO.go (G := GE X.K ca W H0 F0 S σ H F Q) I1 h1 (fun c ρ' z => z) (fun z => z) fun y ρ2 u H2 F2 h2 t1 t2 I2 w2 => ?_
  obtain ⟨d, e, a⟩ := ge_of (F2 := F2) (H2 := H2) h2 (s1.trans t1) (s2.trans t2) I2
  exact hr F2 H2 x y d v u Q I2.sub (w1.mono t2 t1) w2 e a
theorem x_op {a b : Expr} {op : Operator} {fa fb : SE} {g : D → D → Option D} (ho : OpS X (binaryOp op) g) (ha : QO X ca W a fa) (hb : QO X ca W b fb) : QE X ca W (.BinOp a op b pos) (e_op g fa fb) := by
  obtain ⟨r, h1, h2⟩ := ho
  exact (pe_op h1 ha hb).qimp (op_imp h2)
theorem x_cmp {a b : Expr} {op : CmpOp} {fa fb : SE} {g : D → D → Option D} (ho : OpS X (compareOp op) g) (ha : QO X ca W a fa) (hb : QO X ca W b fb) (hm : behindInMarks op b = false := by first | exact nomark _ | rfl | with_unfolding_all rfl) : QE X ca W (.Compare a [op] [b] pos) (e_op g fa fb) := by
  obtain ⟨r, h1, h2⟩ := ho
  exact (pe_cmpR h1 ha hb hm).qimp (op_imp h2)
def t_of (f : SE) : ST := fun ρ => (f ρ).bind fun d ρ1 => match d with
  | .bl b => .ok b ρ1
  | _ => .no
/-- a value's wish as a test's -/
theorem test_of {f : SE} {t : TE} (h : ∀ σ H Q, tE X.K ca W f σ H Q → t σ H Q) (σ : St) (H : Hp) (Q : Bool → Hp → Prop) (q : tT X.K ca W (t_of f) σ H Q) : tTest t σ H Q := by
  obtain ⟨H0, F0, F, S, ρ, I, q⟩ := q
  refine h σ H _ (tE.go (G := GT X.K ca W H0 F0 S σ H F Q) I q (fun c ρ' z => z) (fun z => z) fun d ρ1 v H1 F1 h1 s1 s2 I1 => ?_)
  cases d with
  | bl b =>
    obtain ⟨f', g', ⟨f1, f2, e1, r0, r1⟩, _⟩ := I1.ex
    obtain ⟨rfl, _⟩ := Rps.of_one r0
    exact ⟨b, rfl, h1 H1 F1 s1 s2 I1.pop⟩
  | _ => exact h1.elim
theorem x_tcmp {a b : Expr} {op : CmpOp} {fa fb : SE} {g : D → D → Option D} (ho : OpS X (compareOp op) g) (ha : QO X ca W a fa) (hb : QO X ca W b fb) (hm : behindInMarks op b = false := by first | exact nomark _ | rfl | with_unfolding_all rfl) : QT X ca W (.Compare a [op] [b] pos) (t_of (e_op g fa fb)) := by
  obtain ⟨r, h1, h2⟩ := ho
  exact (pt_cmpR h1 ha hb hm).qimp (test_of (op_imp h2))
theorem x_tval {e : Expr} {f : SE} (h : QE X ca W e f) (he : ∀ whole, isTrue e X.env whole = (do let v ← whole; standAt e.pos; holding [v] (truthy v)) := by intro _; rfl) : QT X ca W e (t_of f) := (pt_val h he).qimp (test_of fun _ _ _ q => q)
/-- two comparisons in a row -/
def e_chain (g g' : D → D → Option D) (fa fb fc : SE) : SE := fun ρ => (fa ρ).bind fun x ρ1 => (fb ρ1).bind fun y ρ2 => match g x y with
  | some (.bl k) => if k = true then (fc ρ2).bind fun z ρ3 => .of (g' y z) ρ3 else .ok (.bl false) ρ2
  | _ => .no
theorem chain_imp {fa fb fc : SE} {g g' : D → D → Option D} {r r' : R2} (hr : ∀ F H d1 d2 d x y Q, Same F H → WR X.K F H d1 x → WR X.K F H d2 y → g d1 d2 = some d → Acc X.K F H d Q → r x y H Q)
    (hr' : ∀ F H d1 d2 d x y Q, Same F H → WR X.K F H d1 x → WR X.K F H d2 y → g' d1 d2 = some d → Acc X.K F H d Q → r' x y H Q)
    (σ : St) (H : Hp) (Q : VK) (h : tE X.K ca W (e_chain g g' fa fb fc) σ H Q) : tChain r r' (tO X.K ca W fa) (tO X.K ca W fb) (tO X.K ca W fc) σ H Q := by
  obtain ⟨H0, F0, F, S, ρ, I, h⟩ := h
  refine tO.go (G := GE X.K ca W H0 F0 S σ H F Q) I h (fun c ρ' z => z) (fun z => z) fun x ρ1 v H1 F1 h1 s1 s2 I1 w1 => ?_
  refine tO.go (G := GE X.K ca W H0 F0 S σ H F Q) I1 h1 (fun c ρ' z => z) (fun z => z) fun y ρ2 u H2 F2 h2 t1 t2 I2 w2 => ?_
  split at h2
  case h_2 => exact h2.elim
  case h_1 _ k e =>
    refine hr F2 H2 x y _ v u _ I2.sub (w1.mono t2 t1) w2 e fun w' H3 F3 f3 G3 r3 c3 n3 => ?_
    obtain ⟨rfl, rfl⟩ := r3
    refine ⟨k, rfl, ?_⟩
    have I3 := I2.ext G3
    cases k with
    | false =>
      rw [if_neg Bool.false_ne_true] at h2 ⊢
      exact h2 (.bl false) H3 F3 ((s1.trans t1).trans G3.hh) ((s2.trans t2).trans G3.ff) (I3.imm ⟨rfl, rfl⟩)
    | true =>
      rw [if_pos rfl] at h2 ⊢
      refine tO.go (G := GE X.K ca W H0 F0 S σ H F Q) I3 h2 (fun c ρ' z => z) (fun z => z) fun z ρ4 z' H4 F4 h4 q1 q2 I4 w4 => ?_
      obtain ⟨d, e, a⟩ := ge_of (F2 := F4) (H2 := H4) h4 (((s1.trans t1).trans G3.hh).trans q1) (((s2.trans t2).trans G3.ff).trans q2) I4
      exact hr' F4 H4 y z d u z' Q I4.sub ((w2.mono G3.ff G3.hh).mono q2 q1) w4 e a
theorem x_chain {a b c : Expr} {op op' : CmpOp} {fa fb fc : SE} {g g' : D → D → Option D} (ho : OpS X (compareOp op) g) (ho' : OpS X (compareOp op') g') (ha : QO X ca W a fa) (hb : QO X ca W b fb) (hc : QO X ca W c fc) (hm : lastMarks [op, op'] [b, c] = false := by with_unfolding_all rfl) :
    QE X ca W (.Compare a [op, op'] [b, c] pos) (e_chain g g' fa fb fc) := by
  obtain ⟨r, h1, h2⟩ := ho
  obtain ⟨r', h1', h2'⟩ := ho'
  exact (pe_chain h1 h1' ha hb hc hm).qimp (chain_imp h2 h2')
theorem x_tchain {a b c : Expr} {op op' : CmpOp} {fa fb fc : SE} {g g' : D → D → Option D} (ho : OpS X (compareOp op) g) (ho' : OpS X (compareOp op') g') (ha : QO X ca W a fa) (hb : QO X ca W b fb) (hc : QO X ca W c fc) (hm : lastMarks [op, op'] [b, c] = false := by with_unfolding_all rfl) :
    QT X ca W (.Compare a [op, op'] [b, c] pos) (t_of (e_chain g g' fa fb fc)) := by
  obtain ⟨r, h1, h2⟩ := ho
  obtain ⟨r', h1', h2'⟩ := ho'
  exact (pt_chain h1 h1' ha hb hc hm).qimp (test_of (chain_imp h2 h2'))
theorem x_un {a : Expr} {op : UnaryOp} {fa : SE} {g : D → Option D} (ho : UnS X (unaryOp op) g) (ha : QO X ca W a fa) : QE X ca W (.UnaryOp op a pos) (e_un g fa) := by
  obtain ⟨r, h1, h2⟩ := ho
  refine (pe_un h1 ha).qimp fun σ H Q ⟨H0, F0, F, S, ρ, I, h⟩ => ?_
  refine tO.go (G := GE X.K ca W H0 F0 S σ H F Q) I h (fun c ρ' z => z) (fun z => z) fun x ρ1 v H1 F1 h1 s1 s2 I1 w1 => ?_
  obtain ⟨d, e, a⟩ := ge_of (F2 := F1) (H2 := H1) h1 s1 s2 I1
  exact h2 F1 H1 x d v Q I1.sub w1 e a

/-! ### tests -/
def t_and (fa fb : ST) : ST := fun ρ => (fa ρ).bind fun b ρ1 => if b = true then fb ρ1 else .ok false ρ1
def t_or (fa fb : ST) : ST := fun ρ => (fa ρ).bind fun b ρ1 => if b = true then .ok true ρ1 else fb ρ1
def t_not (fa : ST) : ST := fun ρ => (fa ρ).bind fun b ρ1 => .ok (!b) ρ1
theorem GT.mono {K : PySem.W.Frag} {H0 F0 F H F1 H1 : Hp} {S : Stk} {σ : St} {Q : Bool → Hp → Prop} {r : RE Bool} (h : GT K ca W H0 F0 S σ H F Q r) (s1 : Same H H1) (s2 : Same F F1) : GT K ca W H0 F0 S σ H1 F1 Q r := by
  cases r with
  | ok b ρ' => exact fun H' F' t1 t2 J => h H' F' (s1.trans t1) (s2.trans t2) J
  | ex c ρ' => exact h
  | no => exact h
theorem GE.mono {K : PySem.W.Frag} {H0 F0 F H F1 H1 : Hp} {S : Stk} {σ : St} {Q : VK} {r : RE D} (h : GE K ca W H0 F0 S σ H F Q r) (s1 : Same H H1) (s2 : Same F F1) : GE K ca W H0 F0 S σ H1 F1 Q r := by
  cases r with
  | ok b ρ' => exact fun v H' F' t1 t2 J => h v H' F' (s1.trans t1) (s2.trans t2) J
  | ex c ρ' => exact h
  | no => exact h
theorem GO.mono {K : PySem.W.Frag} {H0 F0 F H F1 H1 : Hp} {S : Stk} {σ : St} {Q : VK} {r : RE D} (h : GO K ca W H0 F0 S σ H F Q r) (s1 : Same H H1) (s2 : Same F F1) : GO K ca W H0 F0 S σ H1 F1 Q r := by
  cases r with
  | ok b ρ' => exact fun v H' F' t1 t2 J => h v H' F' (s1.trans t1) (s2.trans t2) J
  | ex c ρ' => exact h
  | no => exact h
theorem x_and1 {a : Expr} {fa : ST} (ha : QT X ca W a fa) : QW X ca W (.BoolOp .And [a] pos) fa := pw_and1 ha
theorem x_or1 {a : Expr} {fa : ST} (ha : QT X ca W a fa) : QW X ca W (.BoolOp .Or [a] pos) fa := pw_or1 ha
theorem x_tand {a b : Expr} {rest : List Expr} {fa fb : ST} (ha : QT X ca W a fa) (hb : QW X ca W (.BoolOp .And (b :: rest) pos) fb) : QW X ca W (.BoolOp .And (a :: b :: rest) pos) (t_and fa fb) := (pw_and ha hb).qimp fun σ H Q ⟨H0, F0, F, S, ρ, I, h⟩ =>
  tT.go (G := GT X.K ca W H0 F0 S σ H F Q) I h (fun c ρ' z => z) (fun z => z) fun b ρ1 H1 F1 h1 s1 s2 I1 => by
    cases b with
    | false => rw [if_neg Bool.false_ne_true] at h1 ⊢; exact h1 H1 F1 s1 s2 I1
    | true => rw [if_pos rfl] at h1 ⊢; exact ⟨H0, F0, F1, S, ρ1, I1, GT.mono h1 s1 s2⟩
theorem x_tor {a b : Expr} {rest : List Expr} {fa fb : ST} (ha : QT X ca W a fa) (hb : QW X ca W (.BoolOp .Or (b :: rest) pos) fb) : QW X ca W (.BoolOp .Or (a :: b :: rest) pos) (t_or fa fb) := (pw_or ha hb).qimp fun σ H Q ⟨H0, F0, F, S, ρ, I, h⟩ =>
  tT.go (G := GT X.K ca W H0 F0 S σ H F Q) I h (fun c ρ' z => z) (fun z => z) fun b ρ1 H1 F1 h1 s1 s2 I1 => by
    cases b with
    | true => rw [if_pos rfl] at h1 ⊢; exact h1 H1 F1 s1 s2 I1
    | false => rw [if_neg Bool.false_ne_true] at h1 ⊢; exact ⟨H0, F0, F1, S, ρ1, I1, GT.mono h1 s1 s2⟩
theorem x_tnot {a : Expr} {fa : ST} (ha : QT X ca W a fa) : QT X ca W (.UnaryOp .Not a pos) (t_not fa) := (pt_not ha).qimp fun σ H Q ⟨H0, F0, F, S, ρ, I, h⟩ =>
  tT.go (G := GT X.K ca W H0 F0 S σ H F Q) I h (fun c ρ' z => z) (fun z => z) fun b ρ1 H1 F1 h1 s1 s2 I1 => h1 H1 F1 s1 s2 I1
/-- as values -/
def e_and (fa fb : SE) : SE := fun ρ => (fa ρ).bind fun x ρ1 => match x with
  | .bl k => if k = true then fb ρ1 else .ok (.bl false) ρ1
  | _ => .no
def e_or (fa fb : SE) : SE := fun ρ => (fa ρ).bind fun x ρ1 => match x with
  | .bl k => if k = true then .ok (.bl true) ρ1 else fb ρ1
  | _ => .no
def e_not (fa : SE) : SE := fun ρ => (fa ρ).bind fun x ρ1 => match x with
  | .bl k => .ok (.bl (!k)) ρ1
  | _ => .no
theorem SIf.top1 {K : PySem.W.Frag} {H0 F0 F H : Hp} {S : Stk} {ρ : Env} {σ : St} {d : D} {v : V} (I : SIf K H0 F0 F (([d], [v]) :: S) ρ σ H) : WR K F H d v := by
  obtain ⟨f', g', ⟨f1, f2, e1, r0, r1⟩, _⟩ := I.ex
  exact ⟨f1, Rps.of_one r0⟩
theorem x_one {op : BoolOp} {a : Expr} {fa : SE} (ha : QE X ca W a fa) : QE X ca W (.BoolOp op [a] pos) fa := pe_one ha
theorem x_and {a b : Expr} {rest : List Expr} {fa fb : SE} (ha : QE X ca W a fa) (hb : QE X ca W (.BoolOp .And (b :: rest) pos) fb) : QE X ca W (.BoolOp .And (a :: b :: rest) pos) (e_and fa fb) := (pe_and ha hb).qimp fun σ H Q ⟨H0, F0, F, S, ρ, I, h⟩ =>
  tE.go (G := GE X.K ca W H0 F0 S σ H F Q) I h (fun c ρ' z => z) (fun z => z) fun x ρ1 v H1 F1 h1 s1 s2 I1 => by
    cases x with
    | bl k =>
      obtain ⟨f, r⟩ := I1.top1
      obtain ⟨rfl, _⟩ := r
      refine ⟨k, rfl, ?_⟩
      cases k with
      | false => exact h1 _ H1 F1 s1 s2 I1
      | true => exact ⟨H0, F0, F1, S, ρ1, I1.pop, GE.mono h1 s1 s2⟩
    | _ => exact h1.elim
theorem x_or {a b : Expr} {rest : List Expr} {fa fb : SE} (ha : QE X ca W a fa) (hb : QE X ca W (.BoolOp .Or (b :: rest) pos) fb) : QE X ca W (.BoolOp .Or (a :: b :: rest) pos) (e_or fa fb) := (pe_or ha hb).qimp fun σ H Q ⟨H0, F0, F, S, ρ, I, h⟩ =>
  tE.go (G := GE X.K ca W H0 F0 S σ H F Q) I h (fun c ρ' z => z) (fun z => z) fun x ρ1 v H1 F1 h1 s1 s2 I1 => by
    cases x with
    | bl k =>
      obtain ⟨f, r⟩ := I1.top1
      obtain ⟨rfl, _⟩ := r
      refine ⟨k, rfl, ?_⟩
      cases k with
      | true => exact h1 _ H1 F1 s1 s2 I1
      | false => exact ⟨H0, F0, F1, S, ρ1, I1.pop, GE.mono h1 s1 s2⟩
    | _ => exact h1.elim
theorem x_not {a : Expr} {fa : SE} (ha : QE X ca W a fa) : QE X ca W (.UnaryOp .Not a pos) (e_not fa) := (pe_not ha).qimp fun σ H Q ⟨H0, F0, F, S, ρ, I, h⟩ =>
  tE.go (G := GE X.K ca W H0 F0 S σ H F Q) I h (fun c ρ' z => z) (fun z => z) fun x ρ1 v H1 F1 h1 s1 s2 I1 => by
    cases x with
    | bl k =>
      obtain ⟨f, r⟩ := I1.top1
      obtain ⟨rfl, _⟩ := r
      exact ⟨k, rfl, h1 _ H1 F1 s1 s2 (I1.pop.imm ⟨rfl, rfl⟩)⟩
    | _ => exact h1.elim
def e_if (t : ST) (fa fb : SE) : SE := fun ρ => (t ρ).bind fun b ρ1 => if b = true then fa ρ1 else fb ρ1
theorem x_if {c a b : Expr} {t : ST} {fa fb : SE} (hc : QT X ca W c t) (ha : QE X ca W a fa) (hb : QE X ca W b fb) : QE X ca W (.IfExp c a b pos) (e_if t fa fb) := (pe_ifExp hc ha hb).qimp fun σ H Q ⟨H0, F0, F, S, ρ, I, h⟩ =>
  tT.go (G := GE X.K ca W H0 F0 S σ H F Q) I h (fun c ρ' z => z) (fun z => z) fun b ρ1 H1 F1 h1 s1 s2 I1 => by
    cases b with
    | true => rw [if_pos rfl] at h1 ⊢; exact ⟨H0, F0, F1, S, ρ1, I1, GE.mono h1 s1 s2⟩
    | false => rw [if_neg Bool.false_ne_true] at h1 ⊢; exact ⟨H0, F0, F1, S, ρ1, I1, GE.mono h1 s1 s2⟩

/-! ### rows of expressions, tuples and lists -/
def es_nil : SEs := fun ρ => .ok [] ρ
def es_cons (fa : SE) (fr : SEs) : SEs := fun ρ => (fa ρ).bind fun x ρ1 => (fr ρ1).bind fun xs ρ2 => .ok (x :: xs) ρ2
theorem xs_nil : QEs X ca W [] es_nil := pa_nil.qimp fun σ H Q ⟨H0, F0, F, S, ρ, I, h⟩ => h [] H F (Same.refl _) (Same.refl _) I.push0
theorem xs_cons {e : Expr} {es : List Expr} {fa : SE} {fr : SEs} (ha : QE X ca W e fa) (hr : QEs X ca W es fr) (hs : starEach (e :: es) X.env = (false, eval e X.env) :: starEach es X.env := by rfl) : QEs X ca W (e :: es) (es_cons fa fr) := (pa_cons ha hr hs).qimp fun σ H Q ⟨H0, F0, F, S, ρ, I, h⟩ =>
  tE.go (G := GEs X.K ca W H0 F0 S σ H F Q) I h (fun c ρ' z => z) (fun z => z) fun x ρ1 v H1 F1 h1 s1 s2 I1 =>
    tEs.go (G := GEs X.K ca W H0 F0 S σ H F Q) I1 h1 (fun c ρ' z H' F' J => z H' F' J.pop) (fun z => z) fun xs ρ2 vs H2 F2 h2 t1 t2 I2 => h2 (v :: vs) H2 F2 (s1.trans t1) (s2.trans t2) I2.join
theorem os_nil : QOs X ca W [] es_nil := pa_nil.qimp fun σ H Q ⟨H0, F0, F, S, ρ, I, h⟩ => h [] H F (Same.refl _) (Same.refl _) I rfl
theorem os_cons {e : Expr} {es : List Expr} {fa : SE} {fr : SEs} (ha : QO X ca W e fa) (hr : QOs X ca W es fr) (hs : starEach (e :: es) X.env = (false, eval e X.env) :: starEach es X.env := by rfl) : QOs X ca W (e :: es) (es_cons fa fr) := (pa_cons ha hr hs).qimp fun σ H Q ⟨H0, F0, F, S, ρ, I, h⟩ =>
  tO.go (G := GOs X.K ca W H0 F0 S σ H F Q) I h (fun c ρ' z => z) (fun z => z) fun x ρ1 v H1 F1 h1 s1 s2 I1 w1 =>
    tOs.go (G := GOs X.K ca W H0 F0 S σ H F Q) I1 h1 (fun c ρ' z => z) (fun z => z) fun xs ρ2 vs H2 F2 h2 t1 t2 I2 w2 => h2 (v :: vs) H2 F2 (s1.trans t1) (s2.trans t2) I2 ⟨v, vs, rfl, w1.mono t2 t1, w2⟩
def e_tup (f : SEs) : SE := fun ρ => (f ρ).bind fun ds ρ1 => if ds.length ≤ sizeLine then .ok (.tup ds) ρ1 else .no
def e_lst (f : SEs) : SE := fun ρ => (f ρ).bind fun ds ρ1 => if ds.length ≤ sizeLine then .ok (.lst true ds) ρ1 else .no
end
section
variable {K : PySem.W.Frag} {H0 F0 F F' H H' : Hp} {S : Stk} {ρ : Env} {σ : St} {d : D} {v : V} {ca : Nat → Addr} {W : WX} {ds : List D} {vs : List V} {p : Addr}
theorem Rps.len : ∀ {ds : List D} {vs : List V} {f : List Addr}, Rps K F H ds vs f → vs.length = ds.length
  | [], vs, f, h => by rw [h.1]; rfl
  | d :: ds, vs, f, h => by
    obtain ⟨v, vr, f1, f2, e1, e2, e3, e4⟩ := h
    rw [e1, List.length_cons, List.length_cons, Rps.len e4]
/-- a new frozen thing -/
theorem Grows.frozen {o : HO} (s : Same F H) (n : H p = none) : Grows F H (upd F p o) (upd H p o) where
  hh := fun b x e => by rw [upd_ne (ne_of_none e n)]; exact e
  ff := fun b x e => by rw [upd_ne (ne_of_none (s b x e) n)]; exact e
  fh := fun b x e => by
    by_cases hb : b = p
    · subst hb; rw [upd_same] at e ⊢; exact e
    · rw [upd_ne hb] at e ⊢; exact s b x e
  new := fun b x e _ => upd_ne (ne_of_none e n)
/-- a new thing of ours -/
theorem Grows.owned {o : HO} (s : Same F H) (n : H p = none) : Grows F H F (upd H p o) where
  hh := fun b x e => by rw [upd_ne (ne_of_none e n)]; exact e
  ff := Same.refl _
  fh := fun b x e => by rw [upd_ne (ne_of_none (s b x e) n)]; exact s b x e
  new := fun b x e _ => rfl
theorem free_of (s : Same F H) (n : H p = none) : F p = none := s.free n
theorem SIf.lstTop (I : SIf K H0 F0 F ((ds, vs) :: S) ρ σ H) (n : H p = none) : SIf K H0 F0 F (([.lst true ds], [.ref p]) :: S) ρ σ (upd H p (.lst vs)) :=
  I.top (Grows.owned I.sub n) fun f r _ _ => ⟨p :: f, Rps.one ⟨p, vs, f, rfl, upd_same, Rps.mono (Same.refl _) ds vs f (fun b _ x e => (Grows.owned (o := .lst vs) I.sub n).hh b x e) r, rfl⟩, fun a => by
    have np : p ∉ f := fun m => by
      obtain ⟨o, e, _⟩ := Rps.own ds vs f r p m
      rw [n] at e; cases e
    by_cases e : a = p
    · subst e
      refine .inr ⟨?_, n, free_of I.sub n⟩
      rw [List.count_cons_self, List.count_eq_zero.mpr np]
      exact Nat.le_refl _
    · refine .inl ?_
      rw [List.count_cons_of_ne (Ne.symm e)]
      exact Nat.le_refl _⟩
/-- a new list of things that own nothing -/
theorem Acc.lst {Q : VK} (a : Acc K F H (.lst true ds) Q) (s : Same F H) (r : Rps K F H ds vs []) (n : H p = none) : Q (.ref p) (upd H p (.lst vs)) :=
  a (.ref p) _ F [p] (Grows.owned s n) ⟨p, vs, [], rfl, upd_same, Rps.mono (Same.refl _) ds vs [] (fun _ z => nomatch z) r, rfl⟩ (fun b => by
    by_cases e : b = p
    · subst e; rw [List.count_cons_self, List.count_nil]; exact Nat.le_refl _
    · rw [List.count_cons_of_ne (Ne.symm e), List.count_nil]; exact Nat.zero_le _) fun b hb => by
    have : b = p := by simpa using hb
    subst this
    exact ⟨n, free_of s n⟩
theorem Acc.imm {Q : VK} (a : Acc K F H d Q) (s : Same F H) (r : Rp K F H d v []) : Q v H := a v H F [] (Grows.rfl' s) r (fun b => by simp) (fun _ z => nomatch z)
theorem WRs.none : ∀ {ds : List D} {vs : List V}, D.ownss ds = false → WRs K F H ds vs → Rps K F H ds vs []
  | [], vs, _, h => ⟨h, rfl⟩
  | d :: ds, vs, k, h => by
    obtain ⟨v, vr, e1, ⟨f, r⟩, e3⟩ := h
    have k' : (d.owns || D.ownss ds) = false := k
    rw [Bool.or_eq_false_iff] at k'
    have z := Rp.none d v f k'.1 r
    subst z
    exact ⟨v, vr, [], [], e1, rfl, r, WRs.none k'.2 e3⟩
theorem WRs.of : ∀ {ds : List D} {vs : List V} {f : List Addr}, Rps K F H ds vs f → WRs K F H ds vs
  | [], vs, f, h => h.1
  | d :: ds, vs, f, h => by
    obtain ⟨v, vr, f1, f2, e1, e2, e3, e4⟩ := h
    exact ⟨v, vr, e1, ⟨f1, e3⟩, WRs.of e4⟩
theorem WRs.len : ∀ {ds : List D} {vs : List V}, WRs K F H ds vs → vs.length = ds.length
  | [], vs, h => by rw [show vs = [] from h]; rfl
  | d :: ds, vs, h => by
    obtain ⟨v, vr, e1, e2, e3⟩ := h
    rw [e1, List.length_cons, List.length_cons, WRs.len e3]
theorem WRs.get : ∀ {ds : List D} {vs : List V} {i : Nat} {d : D}, WRs K F H ds vs → ds[i]? = some d → ∃ v, vs[i]? = some v ∧ WR K F H d v
  | [], vs, i, d, _, e => by simp at e
  | d :: ds, vs, 0, d', h, e => by
    obtain ⟨v, vr, e1, e2, e3⟩ := h
    have : d = d' := by simpa using e
    subst this
    exact ⟨v, by rw [e1]; rfl, e2⟩
  | d :: ds, vs, i + 1, d', h, e => by
    obtain ⟨v, vr, e1, e2, e3⟩ := h
    obtain ⟨u, q1, q2⟩ := WRs.get (i := i) e3 (by simpa using e)
    exact ⟨u, by rw [e1]; simpa using q1, q2⟩
theorem WRs.take : ∀ {ds : List D} {vs : List V} (n : Nat), WRs K F H ds vs → WRs K F H (ds.take n) (vs.take n)
  | [], vs, n, h => by rw [show vs = [] from h]; simp [WRs]
  | d :: ds, vs, 0, h => by simp [WRs]
  | d :: ds, vs, n + 1, h => by
    obtain ⟨v, vr, e1, e2, e3⟩ := h
    subst e1
    exact ⟨v, _, rfl, e2, WRs.take n e3⟩
theorem WRs.drop : ∀ {ds : List D} {vs : List V} (n : Nat), WRs K F H ds vs → WRs K F H (ds.drop n) (vs.drop n)
  | ds, vs, 0, h => h
  | [], vs, n + 1, h => by rw [show vs = [] from h]; simp [WRs]
  | d :: ds, vs, n + 1, h => by
    obtain ⟨v, vr, e1, e2, e3⟩ := h
    subst e1
    exact WRs.drop n e3
theorem WRs.append : ∀ {ds es : List D} {vs ws : List V}, WRs K F H ds vs → WRs K F H es ws → WRs K F H (ds ++ es) (vs ++ ws)
  | [], es, vs, ws, h, g => by rw [show vs = [] from h]; exact g
  | d :: ds, es, vs, ws, h, g => by
    obtain ⟨v, vr, e1, e2, e3⟩ := h
    subst e1
    exact ⟨v, _, rfl, e2, WRs.append e3 g⟩
end
section
variable {X : Cx} {ca : Nat → Addr} {W : WX} {pos : Pos}
theorem x_lst {es : List Expr} {f : SEs} (h : QEs X ca W es f) : QE X ca W (.List es pos) (e_lst f) := (pe_lst h).qimp fun σ H Q ⟨H0, F0, F, S, ρ, I, h⟩ =>
  tEs.go (G := GE X.K ca W H0 F0 S σ H F Q) I h (fun c ρ' z => z) (fun z => z) fun ds ρ1 vs H1 F1 h1 s1 s2 I1 => by
    obtain ⟨f', g', ⟨f1, f2, e1, r0, r1⟩, _⟩ := id I1.ex
    by_cases hl : ds.length ≤ sizeLine
    · rw [if_pos hl] at h1
      refine ⟨by rw [Rps.len r0]; exact hl, fun p np => h1 (.ref p) _ _ (s1.trans (Grows.owned I1.sub np).hh) s2 (I1.lstTop np)⟩
    · rw [if_neg hl] at h1; exact h1.elim
end
end OL

namespace OL
open PySem PySem.Spec L2 PySem.MeetsSeq

/-! ### data as the library's -/
mutual
def D.py : D → Option PyData
  | .non => some .none
  | .bl b => some (.bool b)
  | .int i => some (.int i)
  | .str x => some (.str x)
  | .tup ds => (D.pys ds).map .tuple
  | .lst _ ds => (D.pys ds).map .list
  | .dct _ _ => none
  | .exn _ => none
def D.pys : List D → Option (List PyData)
  | [] => some []
  | d :: ds => match d.py, D.pys ds with
    | some p, some ps => some (p :: ps)
    | _, _ => none
end
section
variable {K : PySem.W.Frag} {F H : Hp}
mutual
theorem dp_of (s : Same F H) : ∀ (d : D) (v : V) (f : List Addr) (p : PyData), Rp K F H d v f → d.py = some p → Dp K H v p
  | .non, v, f, p, h, e => by
    obtain ⟨rfl, _⟩ := h
    cases e
    exact .non
  | .bl b, v, f, p, h, e => by
    obtain ⟨rfl, _⟩ := h
    cases e
    exact .bl b
  | .int i, v, f, p, h, e => by
    obtain ⟨rfl, _⟩ := h
    cases e
    exact .int i
  | .str x, v, f, p, h, e => by
    obtain ⟨rfl, _⟩ := h
    cases e
    exact .str x
  | .tup ds, v, f, p, h, e => by
    obtain ⟨a, vs, rfl, e2, e3⟩ := h
    have e' : (D.pys ds).map PyData.tuple = some p := e
    cases q : D.pys ds with
    | none => rw [q] at e'; cases e'
    | some ps =>
      rw [q] at e'
      cases e'
      exact .tup (sqt_same s e2.sq) (dps_of s ds vs f ps e3 q)
  | .lst false ds, v, f, p, h, e => by
    obtain ⟨a, vs, rfl, e2, e3, _⟩ := h
    have e' : (D.pys ds).map PyData.list = some p := e
    cases q : D.pys ds with
    | none => rw [q] at e'; cases e'
    | some ps =>
      rw [q] at e'
      cases e'
      exact .lst (s.seq e2) (dps_of s ds vs [] ps e3 q)
  | .lst true ds, v, f, p, h, e => by
    obtain ⟨a, vs, g, rfl, e2, e3, _⟩ := h
    have e' : (D.pys ds).map PyData.list = some p := e
    cases q : D.pys ds with
    | none => rw [q] at e'; cases e'
    | some ps =>
      rw [q] at e'
      cases e'
      exact .lst (.inl (.inl e2)) (dps_of s ds vs g ps e3 q)
  | .dct false ds, v, f, p, h, e => nomatch e
  | .dct true ds, v, f, p, h, e => nomatch e
  | .exn C, v, f, p, h, e => nomatch e
theorem dps_of (s : Same F H) : ∀ (ds : List D) (vs : List V) (f : List Addr) (ps : List PyData), Rps K F H ds vs f → D.pys ds = some ps → DpAll K H vs ps
  | [], vs, f, ps, h, e => by
    obtain ⟨rfl, _⟩ := h
    cases e
    exact .nil
  | d :: ds, vs, f, ps, h, e => by
    obtain ⟨v, vr, f1, f2, rfl, _, e3, e4⟩ := h
    have e' : (match d.py, D.pys ds with | some p, some ps => some (p :: ps) | _, _ => none) = some ps := e
    cases q1 : d.py with
    | none => rw [q1] at e'; cases e'
    | some p1 =>
      cases q2 : D.pys ds with
      | none => rw [q1, q2] at e'; cases e'
      | some ps2 =>
        rw [q1, q2] at e'
        cases e'
        exact .cons (dp_of s d v f1 p1 e3 q1) (dps_of s ds vr f2 ps2 e4 q2)
end
/-- a list, a tuple that a datum is -/
theorem WR.list {o : Bool} {ds : List D} {v : V} (s : Same F H) (w : WR K F H (.lst o ds) v) : ∃ a vs, v = .ref a ∧ SqL K H a vs ∧ WRs K F H ds vs := by
  obtain ⟨f, r⟩ := w
  cases o with
  | false =>
    obtain ⟨a, vs, e1, e2, e3, _⟩ := r
    exact ⟨a, vs, e1, s.seq e2, WRs.of e3⟩
  | true =>
    obtain ⟨a, vs, g, e1, e2, e3, _⟩ := r
    exact ⟨a, vs, e1, .inl (.inl e2), WRs.of e3⟩
theorem WR.tuple {ds : List D} {v : V} (s : Same F H) (w : WR K F H (.tup ds) v) : ∃ a vs, v = .ref a ∧ SqT K H a vs ∧ TupOk K F ds a vs ∧ WRs K F H ds vs := by
  obtain ⟨f, a, vs, e1, e2, e3⟩ := w
  exact ⟨a, vs, e1, sqt_same s e2.sq, e2, WRs.of e3⟩
theorem WR.int {i : Int} {v : V} (w : WR K F H (.int i) v) : v = .int i := let ⟨_, e, _⟩ := w; e
theorem WR.bl {b : Bool} {v : V} (w : WR K F H (.bl b) v) : v = .bl b := let ⟨_, e, _⟩ := w; e
theorem WR.str {x : Str} {v : V} (w : WR K F H (.str x) v) : v = .str x := let ⟨_, e, _⟩ := w; e
theorem WR.non {v : V} (w : WR K F H .non v) : v = .non := let ⟨_, e, _⟩ := w; e
theorem rp_int (i : Int) : Rp K F H (.int i) (.int i) [] := ⟨rfl, rfl⟩
theorem rp_bl (b : Bool) : Rp K F H (.bl b) (.bl b) [] := ⟨rfl, rfl⟩
theorem rp_str (x : Str) : Rp K F H (.str x) (.str x) [] := ⟨rfl, rfl⟩
theorem rp_non : Rp K F H .non .non [] := ⟨rfl, rfl⟩
/-- None or not -/
theorem WR.isNon {d : D} {v : V} (w : WR K F H d v) : decide (v = .non) = (match d with | .non => true | _ => false) := by
  obtain ⟨f, r⟩ := w
  cases d with
  | non => obtain ⟨rfl, _⟩ := r; rfl
  | bl b => obtain ⟨rfl, _⟩ := r; rfl
  | int b => obtain ⟨rfl, _⟩ := r; rfl
  | str b => obtain ⟨rfl, _⟩ := r; rfl
  | tup b => obtain ⟨a, vs, rfl, _⟩ := r; rfl
  | exn C => obtain ⟨a, rfl, _⟩ := r; rfl
  | lst o b => cases o <;> (obtain ⟨a, vs, q⟩ := r; first | (obtain ⟨rfl, _⟩ := q; rfl) | (obtain ⟨g, rfl, _⟩ := q; rfl))
  | dct o b => cases o <;> (obtain ⟨a, vs, q⟩ := r; first | (obtain ⟨rfl, _⟩ := q; rfl) | (obtain ⟨g, rfl, _⟩ := q; rfl))
end

/-! ### + - * // % ** -/
def gAdd : D → D → Option D
  | .int i, .int j => some (.int (i + j))
  | .str x, .str y => if x.length + y.length ≤ sizeLine then some (.str (x ++ y)) else none
  | .lst _ xs, .lst _ ys => if D.ownss xs = false ∧ D.ownss ys = false ∧ xs.length + ys.length ≤ sizeLine then some (.lst true (xs ++ ys)) else none
  | .tup xs, .tup ys => if D.ownss xs = false ∧ D.ownss ys = false ∧ xs.length + ys.length ≤ sizeLine then some (.tup (xs ++ ys)) else none
  | _, _ => none
def gSub : D → D → Option D
  | .int i, .int j => some (.int (i - j))
  | _, _ => none
def gMul : D → D → Option D
  | .int i, .int j => if i.natAbs.log2 + j.natAbs.log2 < 1000000 then some (.int (i * j)) else none
  | .lst true xs, .int k => if D.ownss xs = false ∧ 0 ≤ k ∧ k < 10000 ∧ xs.length < 1000 then some (.lst true (List.replicate k.toNat xs).flatten) else none
  | .str x, .int k => if 2 ≤ k ∧ k < 10000 ∧ x.length = 1 then some (.str ⟨(List.replicate k.toNat x.cps.toList).flatten.toArray⟩) else none
  | _, _ => none
def gDiv : D → D → Option D
  | .int i, .int j => if 0 < j ∧ j < 1073741824 then some (.int (i / j)) else none
  | _, _ => none
def gMod : D → D → Option D
  | .int i, .int j => if 0 < j then some (.int (i % j)) else none
  | _, _ => none
def gPow : D → D → Option D
  | .int i, .int j => if 0 ≤ j ∧ j ≤ 1000000 ∧ i.natAbs < 2 ^ 64 then some (.int (i ^ j.toNat)) else none
  | _, _ => none
section
variable {X : Cx}
/-- list + list, whoever holds them -/
def rCatQ (K : PySem.W.Frag) : R2 := fun x y H Q => ∃ l b xs zs, x = .ref l ∧ y = .ref b ∧ SqL K H l xs ∧ SqL K H b zs ∧ xs.length + zs.length ≤ sizeLine ∧ ∀ p, H p = none → Q (.ref p) (upd H p (.lst (xs ++ zs)))
theorem op_catQ : OpR X (binaryOp .Add) (rCatQ X.K) := by
  intro pins s σ H x y v u Q I rx ry h
  obtain ⟨l, b, xs, zs, rfl, rfl, hH, hB, hz, q⟩ := h
  cases rx
  cases ry
  obtain ⟨us, r, p1, _⟩ := I.list hH
  obtain ⟨ws, r2, p2, _⟩ := I.list hB
  obtain ⟨⟨c1, d1, a1, t1⟩, ho, hc, n, hd⟩ := id p1.isList
  obtain ⟨⟨c2, d2, a2, t2⟩, ho2, hc2, n2, hd2⟩ := id p2.isList
  simp only at hc hd hc2 hd2
  subst hc hd hc2 hd2
  have len1 := r.length
  have len2 := r2.length
  refine concat_meets ⟨_, ho, rfl⟩ ⟨_, ho2, rfl⟩ PySem.noFill_list_add PySem.seq_list_add PySem.F.slot_list_add PySem.F.entry_list_add (PySem.F.args_list_add_2 _ _)
    (PyProof.Rows.list_addW l b us.toArray ws.toArray n n2 d1 d2 t1 t2 (by simp only [List.size_toArray]; omega)) ⟨ho, ho2, ?_⟩
  have ea : us.toArray ++ ws.toArray = (us ++ ws).toArray := by simp
  rw [ea]
  exact ⟨.ref _, _, I.lnew (t' := s.toks) (r.append r2) (by rw [List.length_append]; omega), rfl, q _ I.fresh⟩
theorem qSub : OpS X (binaryOp .Sub) gSub := by
  refine ⟨_, op_sub, fun F H d1 d2 d x y Q s w1 w2 e a => ?_⟩
  unfold gSub at e
  split at e
  · cases e
    exact ⟨_, _, w1.int, w2.int, a.imm s (rp_int _)⟩
  · cases e
theorem own_flat {xs : List D} (h : D.ownss xs = false) : ∀ k : Nat, D.ownss (List.replicate k xs).flatten = false
  | 0 => rfl
  | k + 1 => by
    have ih := own_flat h k
    have oo : ∀ xs ys : List D, D.ownss xs = false → D.ownss ys = false → D.ownss (xs ++ ys) = false := fun xs => by
      induction xs with
      | nil => intro ys _ h; exact h
      | cons d ds ih =>
        intro ys h1 h2
        have h1' : (d.owns || D.ownss ds) = false := h1
        rw [Bool.or_eq_false_iff] at h1'
        show (d.owns || D.ownss (ds ++ ys)) = false
        rw [h1'.1, ih ys h1'.2 h2]
        rfl
    rw [List.replicate_succ, List.flatten_cons]
    exact oo _ _ h ih
theorem wrs_flat {K : PySem.W.Frag} {F H : Hp} {xs : List D} {vs : List V} (h : WRs K F H xs vs) : ∀ k : Nat, WRs K F H (List.replicate k xs).flatten (List.replicate k vs).flatten
  | 0 => rfl
  | k + 1 => by
    rw [List.replicate_succ, List.flatten_cons, List.replicate_succ, List.flatten_cons]
    exact h.append (wrs_flat h k)
/-- a sign, so many times -/
theorem op_repS : OpR X (binaryOp .Mult) (fun x y H Q => ∃ z k, x = .str z ∧ y = .int k ∧ 2 ≤ k ∧ k < 10000 ∧ z.length = 1 ∧ Q (.str ⟨(List.replicate k.toNat z.cps.toList).flatten.toArray⟩) H) := by
  intro pins s σ H x y v u Q I rx ry h
  obtain ⟨z, k, rfl, rfl, h1, h2, h3, q⟩ := h
  obtain ⟨t, rfl⟩ := rx
  obtain ⟨t', rfl⟩ := ry
  have hb : (z.length == 0) = false := by rw [h3]; rfl
  have hk : (k == 1) = false := by rw [beq_eq_false_iff_ne]; omega
  have fe : ∀ (l : List (Array Nat)) (a : Array Nat), (l.foldl (· ++ ·) a).toList = a.toList ++ (l.map Array.toList).flatten := fun l => by
    induction l with
    | nil => intro a; simp
    | cons b r ih =>
      intro a
      rw [List.foldl_cons, ih]
      simp
  have e : (List.replicate k.toNat z.cps).foldl (· ++ ·) #[] = (List.replicate k.toNat z.cps.toList).flatten.toArray := by
    apply Array.toList_inj.mp
    rw [fe]
    simp
  have small : (k.toNat : Int) = k := by omega
  refine PySem.P.mul_str ?_ (fun _ _ => ?_) (fun _ _ => ?_) ?_
  · rw [decide_eq_false (by omega), decide_eq_false (by omega)]; rfl
  · rw [h3]
    have : (1 : Int) ≤ (2 ^ 63 - 1) / k := by
      rw [Int.le_ediv_iff_mul_le (by omega)]
      omega
    omega
  · rw [h3, Nat.one_mul]
    unfold Builtin.Str.tooLong
    have : (sizeLine : Nat) = 16777216 := sizeLine_eq
    first
      | exact decide_eq_false (by omega)
      | (simp; omega)
  · rw [if_neg (by omega), hb, hk, e]
    refine ⟨?_, ?_⟩
    · have : ((List.replicate k.toNat z.cps.toList).flatten.toArray).size = k.toNat := by
        have hl : z.cps.toList.length = 1 := h3
        simp [List.length_flatten, hl]
      first
        | (show _ ≤ sizeLine; rw [sizeLine_eq]; show ((List.replicate k.toNat z.cps.toList).flatten.toArray).size ≤ _; omega)
        | (simp; omega)
    · exact ⟨.str _, H, I.tok _, ⟨_, rfl⟩, q⟩
end
end OL

namespace OL
open PySem PySem.Spec L2
/-! ### == and the like -/
def D.peq (x y : D) : Option Bool := match x.py, y.py with
  | some a, some b => if SeqAt.shaped a = true ∧ SeqAt.shaped b = true then some (PyData.eqv a b) else none
  | _, _ => none
def gEq (x y : D) : Option D := (D.peq x y).map D.bl
def gNe (x y : D) : Option D := (D.peq x y).map fun b => .bl (!b)
def gLt : D → D → Option D
  | .int i, .int j => some (.bl (decide (i < j)))
  | .str x, .str y => some (.bl (decide (x.cps.toList < y.cps.toList)))
  | _, _ => none
def gLe : D → D → Option D
  | .int i, .int j => some (.bl (decide (i ≤ j)))
  | _, _ => none
def gGt : D → D → Option D
  | .int i, .int j => some (.bl (decide (j < i)))
  | _, _ => none
def gGe : D → D → Option D
  | .int i, .int j => some (.bl (decide (j ≤ i)))
  | _, _ => none
def D.isNon : D → Bool
  | .non => true
  | _ => false
def gIsN (x y : D) : Option D := match y with
  | .non => some (.bl x.isNon)
  | _ => none
def gNotN (x y : D) : Option D := match y with
  | .non => some (.bl (!x.isNon))
  | _ => none
/-- a list's or a tuple's items -/
def D.items : D → Option (List D)
  | .lst _ ds => some ds
  | .tup ds => some ds
  | _ => none
def D.pin (x : D) (ys : List D) : Option Bool := match x.py, D.pys ys with
  | some a, some bs => if SeqAt.shaped a = true ∧ SeqAt.shaped (.list bs) = true then some (bs.any fun z => PyData.eqv z a) else none
  | _, _ => none
/-- in a list, in a text (a sign) -/
def gIn : D → D → Option D
  | x, .lst _ ys => (D.pin x ys).map D.bl
  | x, .tup ys => (D.pin x ys).map D.bl
  | .str x, .str y => some (.bl (!(Builtin.Str.occurrences y x 0 y.length 1).isEmpty))
  | _, _ => none
def gNotIn : D → D → Option D
  | x, .lst _ ys => (D.pin x ys).map fun b => .bl (!b)
  | x, .tup ys => (D.pin x ys).map fun b => .bl (!b)
  | .str x, .str y => some (.bl (!(!(Builtin.Str.occurrences y x 0 y.length 1).isEmpty)))
  | _, _ => none
def gNeg : D → Option D
  | .int i => some (.int (-i))
  | _ => none
theorem WR.isNon' {K : PySem.W.Frag} {F H : Hp} {d : D} {v : V} (w : WR K F H d v) : decide (v = .non) = d.isNon := w.isNon.trans (by cases d <;> rfl)
section
variable {X : Cx}
theorem qMul : OpS X (binaryOp .Mult) gMul := by
  refine ⟨_, op_mulW.or (op_rep.or op_repS), fun F H d1 d2 d x y Q s w1 w2 e a => ?_⟩
  unfold gMul at e
  split at e
  · split at e
    · rename_i hc
      cases e
      exact .inl ⟨_, _, w1.int, w2.int, hc, a.imm s (rp_int _)⟩
    · cases e
  · split at e
    · rename_i _ _ xs k hc
      cases e
      obtain ⟨f, l, vs, g, rfl, e2, e3, e4⟩ := w1
      have k1 := WRs.of e3
      have hs : (sizeLine : Nat) = 16777216 := sizeLine_eq
      have hm : vs.length * k.toNat ≤ 1000 * 10000 := Nat.mul_le_mul (by rw [k1.len]; omega) (by omega)
      exact .inr (.inl ⟨l, k, vs, rfl, w2.int, e2, by omega, by omega, by omega, fun p np => a.lst s (WRs.none (own_flat hc.1 _) (wrs_flat k1 _)) np⟩)
    · cases e
  · split at e
    · rename_i hc
      cases e
      exact .inr (.inr ⟨_, _, w1.str, w2.int, hc.1, hc.2.1, hc.2.2, a.imm s (rp_str _)⟩)
    · cases e
  · cases e
theorem qDiv : OpS X (binaryOp .FloorDiv) gDiv := by
  refine ⟨_, op_fdiv, fun F H d1 d2 d x y Q s w1 w2 e a => ?_⟩
  unfold gDiv at e
  split at e
  · split at e
    · rename_i hc
      cases e
      exact ⟨_, _, w1.int, w2.int, hc, a.imm s (rp_int _)⟩
    · cases e
  · cases e
theorem qMod : OpS X (binaryOp .Mod) gMod := by
  refine ⟨_, op_mod, fun F H d1 d2 d x y Q s w1 w2 e a => ?_⟩
  unfold gMod at e
  split at e
  · split at e
    · rename_i hc
      cases e
      exact ⟨_, _, w1.int, w2.int, hc, a.imm s (rp_int _)⟩
    · cases e
  · cases e
theorem qPow : OpS X (binaryOp .Pow) gPow := by
  refine ⟨_, op_pow, fun F H d1 d2 d x y Q s w1 w2 e a => ?_⟩
  unfold gPow at e
  split at e
  · split at e
    · rename_i hc
      cases e
      exact ⟨_, _, w1.int, w2.int, hc, a.imm s (rp_int _)⟩
    · cases e
  · cases e
theorem peq_of {K : PySem.W.Frag} {F H : Hp} {d1 d2 : D} {x y : V} {b : Bool} (s : Same F H) (w1 : WR K F H d1 x) (w2 : WR K F H d2 y) (e : D.peq d1 d2 = some b) :
    ∃ p q, Dp K H x p ∧ Dp K H y q ∧ SeqAt.shaped p = true ∧ SeqAt.shaped q = true ∧ b = PyData.eqv p q := by
  unfold D.peq at e
  split at e
  · rename_i p q e1 e2
    split at e
    · rename_i hc
      cases e
      obtain ⟨f1, r1⟩ := w1
      obtain ⟨f2, r2⟩ := w2
      exact ⟨p, q, dp_of s _ _ _ _ r1 e1, dp_of s _ _ _ _ r2 e2, hc.1, hc.2, rfl⟩
    · cases e
  · cases e
theorem qEq (hu : X.A.units + 64 < cLine) : OpS X (compareOp .Eq) gEq := by
  refine ⟨_, op_eqD hu, fun F H d1 d2 d x y Q s w1 w2 e a => ?_⟩
  unfold gEq at e
  cases q : D.peq d1 d2 with
  | none => rw [q] at e; cases e
  | some b =>
    rw [q] at e
    cases e
    obtain ⟨p, p', h1, h2, h3, h4, rfl⟩ := peq_of s w1 w2 q
    exact ⟨p, p', h1, h2, h3, h4, a.imm s (rp_bl _)⟩
theorem qNe (hu : X.A.units + 64 < cLine) : OpS X (compareOp .NotEq) gNe := by
  refine ⟨_, op_neD hu, fun F H d1 d2 d x y Q s w1 w2 e a => ?_⟩
  unfold gNe at e
  cases q : D.peq d1 d2 with
  | none => rw [q] at e; cases e
  | some b =>
    rw [q] at e
    cases e
    obtain ⟨p, p', h1, h2, h3, h4, rfl⟩ := peq_of s w1 w2 q
    exact ⟨p, p', h1, h2, h3, h4, a.imm s (rp_bl _)⟩
theorem qLt : OpS X (compareOp .Lt) gLt := by
  refine ⟨_, op_lt.or op_lt_str, fun F H d1 d2 d x y Q s w1 w2 e a => ?_⟩
  unfold gLt at e
  split at e
  · cases e; exact .inl ⟨_, _, w1.int, w2.int, a.imm s (rp_bl _)⟩
  · cases e; exact .inr ⟨_, _, w1.str, w2.str, a.imm s (rp_bl _)⟩
  · cases e
theorem qLe : OpS X (compareOp .LtE) gLe := by
  refine ⟨_, op_le, fun F H d1 d2 d x y Q s w1 w2 e a => ?_⟩
  unfold gLe at e
  split at e
  · cases e; exact ⟨_, _, w1.int, w2.int, a.imm s (rp_bl _)⟩
  · cases e
theorem qGt : OpS X (compareOp .Gt) gGt := by
  refine ⟨_, op_gt, fun F H d1 d2 d x y Q s w1 w2 e a => ?_⟩
  unfold gGt at e
  split at e
  · cases e; exact ⟨_, _, w1.int, w2.int, a.imm s (rp_bl _)⟩
  · cases e
theorem qGe : OpS X (compareOp .GtE) gGe := by
  refine ⟨_, op_ge, fun F H d1 d2 d x y Q s w1 w2 e a => ?_⟩
  unfold gGe at e
  split at e
  · cases e; exact ⟨_, _, w1.int, w2.int, a.imm s (rp_bl _)⟩
  · cases e
theorem qIsN : OpS X (compareOp .Is) gIsN := by
  refine ⟨_, op_isN, fun F H d1 d2 d x y Q s w1 w2 e a => ?_⟩
  unfold gIsN at e
  split at e
  · cases e
    exact ⟨w2.non, by rw [w1.isNon']; exact a.imm s (rp_bl _)⟩
  · cases e
theorem qNotN : OpS X (compareOp .IsNot) gNotN := by
  refine ⟨_, op_notN, fun F H d1 d2 d x y Q s w1 w2 e a => ?_⟩
  unfold gNotN at e
  split at e
  · cases e
    exact ⟨w2.non, by rw [w1.isNon']; exact a.imm s (rp_bl _)⟩
  · cases e
theorem qNeg : UnS X (unaryOp .USub) gNeg := by
  refine ⟨_, un_neg, fun F H d1 d x Q s w1 e a => ?_⟩
  unfold gNeg at e
  split at e
  · cases e; exact ⟨_, w1.int, a.imm s (rp_int _)⟩
  · cases e
end
end OL

namespace OL
open PySem PySem.Spec L2
/-! ### new tuples: tracked by their items, or with the object too (then it is known to bear no dict) -/
def tupHO (c : Bool) (o : Obj) (xs : List V) : HO := if c = true then .frz o (.tup xs) else .tup xs
theorem tupHO_m {c : Bool} {o : Obj} {xs : List V} : isM (tupHO c o xs) = false := by cases c <;> rfl
/-- a new tuple's wish -/
def NewT (xs : List V) (H : Hp) (Q : VK) : Prop := ∃ c : Bool, ∀ p o, H p = none → o.dict = none → Q (.ref p) (upd H p (tupHO c o xs))
section
variable {X : Cx} {pins : List (Addr × Obj)} {σ : St} {H : Hp} {s : Shared} {xs : List V} {its : List Value}
theorem tup_laid {Q : VK} {t' : Nat} {h0 : Heap} (I : Inv X pins σ H { s with heap := h0 }) (r : Vals xs its) (hz : xs.length ≤ sizeLine) (q : NewT xs H Q) :
    EP X pins σ Q (.ref h0.objs.size) { s with heap := h0.push { cls := .type "tuple", data := .seq its.toArray }, toks := t' } := by
  obtain ⟨c, q⟩ := q
  refine ⟨.ref h0.objs.size, _, I.laid (t' := t') (o := tupHO c { cls := .type "tuple", data := .seq its.toArray } xs) (fun b u e => Heap.get?_push_of_some _ e) (Nat.le_refl _) ?_, rfl, q _ _ (I.hok.fresh (Nat.le_refl _)) rfl⟩
  cases c with
  | false => exact ⟨hz, its, r, PyProof.Rows.IsTup.new _ _⟩
  | true => exact ⟨Heap.get?_push_size _ rfl, hz, its, r, PyProof.Rows.IsTup.new _ _⟩
end
section
variable {X : Cx} {es : List Expr} {t : TA} {pos : Pos}
def tTupQ (t : TA) : TE := fun σ H Q => t σ H fun xs H1 => xs.length ≤ sizeLine ∧ NewT xs H1 Q
theorem pe_tupQ {x1 : Nat} (h : PA X es t) : PE X (.Tuple es x1 pos) (tTupQ t) := by
  refine ⟨fun pins s σ H Q I hq => ?_⟩
  exact wpAny_Tuple_spliced (thn (h.run pos pins s σ H _ I hq) fun us s1 ⟨xs, H1, I1, r, z, q⟩ => ⟨by rw [← r.length]; exact z, tup_laid (t' := s1.toks) (h0 := s1.heap) I1 r z q⟩)
/-- t + u, two tuples -/
def rCatU (K : PySem.W.Frag) : R2 := fun x y H Q => ∃ a b xs ys, x = .ref a ∧ y = .ref b ∧ SqT K H a xs ∧ SqT K H b ys ∧ xs.length + ys.length ≤ sizeLine ∧
  (xs = [] → Q (.ref b) H) ∧ (xs ≠ [] → ys = [] → Q (.ref a) H) ∧ (xs ≠ [] → ys ≠ [] → NewT (xs ++ ys) H Q)
theorem op_catU : OpR X (binaryOp .Add) (rCatU X.K) := by
  intro pins s σ H x y v u Q I rx ry h
  obtain ⟨a, b, xs, ys, rfl, rfl, ha, hb, hz, q0, q1, q2⟩ := h
  by_cases hx : xs = []
  · exact op_catA pins s σ H _ _ v u Q I rx ry ⟨a, b, xs, ys, rfl, rfl, ha, hb, hz, q0, fun z => absurd hx z, fun z => absurd hx z⟩
  · by_cases hy : ys = []
    · exact op_catA pins s σ H _ _ v u Q I rx ry ⟨a, b, xs, ys, rfl, rfl, ha, hb, hz, q0, q1, fun _ z => absurd hy z⟩
    · cases rx
      cases ry
      obtain ⟨us, r1, p1, _⟩ := I.tuple ha
      obtain ⟨ws, r2, p2, _⟩ := I.tuple hb
      refine HT.cat_tup p1 p2 (fun z => hx (r1.nil_iff.mp z)) (fun z => absurd (r2.nil_iff.mp z) hy) (fun z => ?_) (by rw [← r1.length, ← r2.length]; exact hz)
      exact tup_laid (t' := s.toks) (h0 := s.heap) I (r1.append r2) (by rw [List.length_append]; exact hz) (q2 hx hy)
/-- t[lo:hi] of a tuple -/
def rSlU (K : PySem.W.Frag) : V → Option Int → Option Int → Hp → VK → Prop := fun x lo hi H Q => ∃ a xs, x = .ref a ∧ SqT K H a xs ∧
  (HT.sIx xs.length 0 lo = 0 ∧ HT.sIx xs.length xs.length hi = xs.length → Q (.ref a) H) ∧ (¬ (HT.sIx xs.length 0 lo = 0 ∧ HT.sIx xs.length xs.length hi = xs.length) → NewT (cutV xs lo hi) H Q)
theorem sl_tupU : SlR X (rSlU X.K) := by
  intro pins s σ H x v vl vu lo hi sl Q I rx hs pl pu h
  obtain ⟨a, xs, rfl, hx, q1, q2⟩ := h
  cases rx
  obtain ⟨us, r, ht, hz⟩ := I.tuple hx
  have hlen : us.toArray.size = xs.length := by rw [List.size_toArray]; exact r.length.symm
  refine ⟨"tuple", _, PyProof.Rows.slot_tuple_getitem.lookup, ht.typeIs, ?_⟩
  by_cases hw : HT.sIx xs.length 0 lo = 0 ∧ HT.sIx xs.length xs.length hi = xs.length
  · exact getItem_tuple_whole ht hs pl pu (by rw [hlen]; exact hw) ⟨.ref a, H, I, rfl, q1 hw⟩
  · refine HT.getItem_tuple_cut ht hs pl pu (by rw [hlen]; exact hw) ?_ (by rw [hlen]; exact hz)
    rw [hlen]
    exact tup_laid (t' := s.toks) (h0 := s.heap) I ((r.drop (HT.sIx xs.length 0 lo)).take (HT.sIx xs.length xs.length hi - HT.sIx xs.length 0 lo)) (Nat.le_trans (cutV_length xs lo hi) hz) (q2 hw)
/-- tuple(a list), tuple(a tuple) -/
theorem call_tupleU : CallR X (.type "tuple") (fun xs H Q => ∃ p ys, xs = [.ref p] ∧ ((SqL X.K H p ys ∧ NewT ys H Q) ∨ (SqT X.K H p ys ∧ Q (.ref p) H))) := by
  intro pins s σ H xs us Q I r h
  obtain ⟨p, ys, rfl, h⟩ := h
  rcases h with ⟨hq, q⟩ | ⟨hq, q⟩
  · obtain ⟨u, rfl, rx⟩ := vals1 r
    cases rx
    obtain ⟨its, r', pl, hz⟩ := I.list hq
    have hlen := r'.length
    refine call_tuple_list pl.isList (fun h' kp => ?_) (by simp only [List.size_toArray] <;> omega)
    exact tup_laid (t' := s.toks) (h0 := h') (I.kept (t' := s.toks) kp) r' hz q
  · exact call_tuple_of pins s σ H _ us Q I r ⟨p, ys, rfl, .inr ⟨hq, q⟩⟩
end
/-! ### in the layer -/
section
variable {K : PySem.W.Frag} {H0 F0 F F' H H' : Hp} {S : Stk} {ρ : Env} {σ : St} {d : D} {v : V} {ca : Nat → Addr} {W : WX} {ds : List D} {vs : List V} {p : Addr} {o : Obj}
theorem not_both {ds : List D} (h : D.strish ds = true) : D.keyish ds = false := by
  cases ds with
  | nil => rfl
  | cons d ds => cases d <;> first | rfl | cases h
theorem tupOk_new (b : o.dict = none) : TupOk K (upd F p (tupHO (D.strish ds) o vs)) ds p vs := by
  cases e : D.strish ds with
  | true => exact ⟨.inl (.inr ⟨o, upd_same⟩), (fun z => by rw [not_both e] at z; cases z), fun _ => .inl ⟨o, _, upd_same, b⟩⟩
  | false => exact ⟨.inl (.inl upd_same), fun _ => upd_same, (fun z => by rw [e] at z; cases z)⟩
theorem SIf.tupTop (I : SIf K H0 F0 F ((ds, vs) :: S) ρ σ H) (n : H p = none) (b : o.dict = none) : SIf K H0 F0 (upd F p (tupHO (D.strish ds) o vs)) (([.tup ds], [.ref p]) :: S) ρ σ (upd H p (tupHO (D.strish ds) o vs)) :=
  I.top (Grows.frozen I.sub n) fun f r _ _ => ⟨f, Rps.one ⟨p, vs, rfl, tupOk_new b, Rps.mono (Grows.frozen I.sub n).ff ds vs f (fun b _ x e => (Grows.frozen I.sub n).hh b x e) r⟩, fun a => .inl (Nat.le_refl _)⟩
theorem Acc.tupN {Q : VK} (a : Acc K F H (.tup ds) Q) (s : Same F H) (r : Rps K F H ds vs []) : NewT vs H Q := ⟨D.strish ds, fun p o n b =>
  a (.ref p) _ (upd F p (tupHO (D.strish ds) o vs)) [] (Grows.frozen s n) ⟨p, vs, rfl, tupOk_new b, Rps.mono (Grows.frozen (o := tupHO (D.strish ds) o vs) s n).ff ds vs [] (fun _ z => nomatch z) r⟩ (fun b => by simp) (fun _ z => nomatch z)⟩
end
section
variable {X : Cx} {ca : Nat → Addr} {W : WX} {pos : Pos}
theorem x_tup {es : List Expr} {f : SEs} {k : Nat} (h : QEs X ca W es f) : QE X ca W (.Tuple es k pos) (e_tup f) := (pe_tupQ h).qimp fun σ H Q ⟨H0, F0, F, S, ρ, I, h⟩ =>
  tEs.go (G := GE X.K ca W H0 F0 S σ H F Q) I h (fun c ρ' z => z) (fun z => z) fun ds ρ1 vs H1 F1 h1 s1 s2 I1 => by
    obtain ⟨f', g', ⟨f1, f2, e1, r0, r1⟩, _⟩ := id I1.ex
    by_cases hl : ds.length ≤ sizeLine
    · rw [if_pos hl] at h1
      refine ⟨by rw [Rps.len r0]; exact hl, D.strish ds, fun p o np b => h1 (.ref p) _ _ (s1.trans (Grows.frozen I1.sub np).hh) (s2.trans (Grows.frozen I1.sub np).ff) (I1.tupTop np b)⟩
    · rw [if_neg hl] at h1; exact h1.elim
theorem qAdd : OpS X (binaryOp .Add) gAdd := by
  refine ⟨_, op_add.or (op_add_str.or (op_catQ.or op_catU)), fun F H d1 d2 d x y Q s w1 w2 e a => ?_⟩
  unfold gAdd at e
  split at e
  · cases e
    exact .inl ⟨_, _, w1.int, w2.int, a.imm s (rp_int _)⟩
  · split at e
    · rename_i hl
      cases e
      exact .inr (.inl ⟨_, _, w1.str, w2.str, hl, a.imm s (rp_str _)⟩)
    · cases e
  · split at e
    · rename_i hc
      cases e
      obtain ⟨l, xs, e1, s1, k1⟩ := w1.list s
      obtain ⟨b, ys, e2, s2, k2⟩ := w2.list s
      refine .inr (.inr (.inl ⟨l, b, xs, ys, e1, e2, s1, s2, by rw [k1.len, k2.len]; exact hc.2.2, fun p np => a.lst s ?_ np⟩))
      refine WRs.none ?_ (k1.append k2)
      have oo : ∀ xs ys : List D, D.ownss xs = false → D.ownss ys = false → D.ownss (xs ++ ys) = false := fun xs => by
        induction xs with
        | nil => intro ys _ h; exact h
        | cons d ds ih =>
          intro ys h1 h2
          have h1' : (d.owns || D.ownss ds) = false := h1
          rw [Bool.or_eq_false_iff] at h1'
          show (d.owns || D.ownss (ds ++ ys)) = false
          rw [h1'.1, ih ys h1'.2 h2]
          rfl
      exact oo _ _ hc.1 hc.2.1
    · cases e
  · split at e
    · rename_i hc
      cases e
      obtain ⟨l, xs, rfl, s1, f1, k1⟩ := w1.tuple s
      obtain ⟨b, ys, rfl, s2, f2, k2⟩ := w2.tuple s
      have r1 := WRs.none hc.1 k1
      have r2 := WRs.none hc.2.1 k2
      refine .inr (.inr (.inr ⟨l, b, xs, ys, rfl, rfl, s1, s2, by rw [k1.len, k2.len]; exact hc.2.2, fun z => ?_, fun _ z => ?_, fun _ _ => a.tupN s ?_⟩))
      · have l1 := k1.len
        rw [z] at l1
        have l2 := List.eq_nil_of_length_eq_zero (l1.symm.trans rfl)
        refine a.imm s ?_
        rw [l2]
        exact ⟨b, ys, rfl, f2, r2⟩
      · have l1 := k2.len
        rw [z] at l1
        have l2 := List.eq_nil_of_length_eq_zero (l1.symm.trans rfl)
        refine a.imm s ?_
        rw [l2, List.append_nil]
        exact ⟨l, xs, rfl, f1, r1⟩
      · have ap : ∀ (xs ys : List D) (vs ws : List V), Rps X.K F H xs vs [] → Rps X.K F H ys ws [] → Rps X.K F H (xs ++ ys) (vs ++ ws) [] := fun xs => by
          induction xs with
          | nil =>
            intro ys vs ws h1 h2
            obtain ⟨rfl, _⟩ := h1
            exact h2
          | cons d ds ih =>
            intro ys vs ws h1 h2
            obtain ⟨v, vr, g1, g2, rfl, g3, g4, g5⟩ := h1
            obtain ⟨rfl, rfl⟩ : g1 = [] ∧ g2 = [] := by simpa using g3.symm
            exact ⟨v, _, [], [], rfl, rfl, g4, ih ys vr ws g5 h2⟩
        exact ap _ _ _ _ r1 r2
    · cases e
  · cases e
end
end OL

namespace OL
open PySem PySem.Spec L2
theorem _root_.L2.PE.qor {X : Cx} {e : Expr} {t t' : TE} (h : PE X e t) (h' : PE X e t') : PE X e (fun σ H Q => t σ H Q ∨ t' σ H Q) := ⟨fun pins s σ H Q I q => by
  rcases q with q | q
  · exact h.run pins s σ H Q I q
  · exact h'.run pins s σ H Q I q⟩
theorem _root_.L2.PT.qor {X : Cx} {e : Expr} {t t' : TT} (h : PT X e t) (h' : PT X e t') : PT X e (fun σ H Q => t σ H Q ∨ t' σ H Q) := ⟨fun pins s σ H Q I q => by
  rcases q with q | q
  · exact h.run pins s σ H Q I q
  · exact h'.run pins s σ H Q I q⟩

/-! ### keys -/
def D.keyOf : D → Option Key
  | .int i => some (.inl i)
  | .str x => some (.inr x)
  | _ => none
def D.keysOf : List D → Option (List Key)
  | [] => some []
  | d :: ds => match d.keyOf, D.keysOf ds with
    | some k, some ks => some (k :: ks)
    | _, _ => none
/-- a tuple of numbers and texts, a number first -/
def D.key : D → Option (List Key)
  | .tup ds => if D.keyish ds = true then D.keysOf ds else none
  | _ => none
def dGet (kvs : List (List Key × D)) (k : List Key) : Option D := (kvs.find? fun kv => decide (kv.1 = k)).map (·.2)
def dPut (kvs : List (List Key × D)) (k : List Key) (d : D) : List (List Key × D) :=
  if (kvs.any fun kv => decide (kv.1 = k)) = true then kvs.map (fun kv => if kv.1 = k then (kv.1, d) else kv) else kvs ++ [(k, d)]
def dDrop (kvs : List (List Key × D)) (k : List Key) : List (List Key × D) := kvs.filter fun kv => decide (kv.1 ≠ k)
section
variable {K : PySem.W.Frag} {F H : Hp}
theorem keyOf_v {d : D} {v : V} {k : Key} (w : WR K F H d v) (e : d.keyOf = some k) : v = kV k := by
  cases d with
  | int i => cases e; exact w.int
  | str x => cases e; exact w.str
  | _ => cases e
theorem keysOf_v : ∀ {ds : List D} {vs : List V} {k : List Key}, WRs K F H ds vs → D.keysOf ds = some k → vs = k.map kV
  | [], vs, k, h, e => by cases e; exact h
  | d :: ds, vs, k, h, e => by
    obtain ⟨v, vr, rfl, e2, e3⟩ := h
    have e' : (match d.keyOf, D.keysOf ds with | some k, some ks => some (k :: ks) | _, _ => none) = some k := e
    cases q1 : d.keyOf with
    | none => rw [q1] at e'; cases e'
    | some k1 =>
      cases q2 : D.keysOf ds with
      | none => rw [q1, q2] at e'; cases e'
      | some k2 =>
        rw [q1, q2] at e'
        cases e'
        rw [keyOf_v e2 q1, keysOf_v e3 q2]
        rfl
theorem key_v {d : D} {v : V} {k : List Key} (s : Same F H) (w : WR K F H d v) (e : d.key = some k) : ∃ b, v = .ref b ∧ H b = some (.tup (k.map kV)) ∧ F b = some (.tup (k.map kV)) := by
  cases d with
  | tup ds =>
    obtain ⟨a, vs, rfl, s1, t1, w1⟩ := w.tuple s
    have e' : (if D.keyish ds = true then D.keysOf ds else none) = some k := e
    by_cases hk : D.keyish ds = true
    · rw [if_pos hk] at e'
      have := t1.key hk
      rw [keysOf_v w1 e'] at this
      exact ⟨a, rfl, s _ _ this, this⟩
    · rw [if_neg hk] at e'; cases e'
  | _ => cases e
def Held (K : PySem.W.Frag) (F H : Hp) (o : Option V) : Option D → Prop
  | none => o = none
  | some d => ∃ v, o = some v ∧ WR K F H d v
theorem Rpk.find (k : List Key) : ∀ {kvs : List (List Key × D)} {ws : List (List Key × V)} {f : List Addr}, Rpk K F H kvs ws f → Held K F H (valV ws k) (dGet kvs k)
  | [], ws, f, h => by
    obtain ⟨rfl, _⟩ := h
    rfl
  | (k', d) :: kvs, ws, f, h => by
    obtain ⟨v, wr, f1, f2, rfl, _, e3, e4⟩ := h
    have ih := Rpk.find k e4
    by_cases e : k' = k
    · have : dGet ((k', d) :: kvs) k = some d := by simp [dGet, List.find?_cons, e]
      rw [this]
      exact ⟨v, valV_pos e, f1, e3⟩
    · have : dGet ((k', d) :: kvs) k = dGet kvs k := by simp [dGet, List.find?_cons, e]
      rw [this]
      have e5 : valV ((k', v) :: wr) k = valV wr k := valV_neg e
      rw [e5]
      exact ih
theorem WR.dict {o : Bool} {kvs : List (List Key × D)} {v : V} (s : Same F H) (w : WR K F H (.dct o kvs) v) : ∃ a ws f, v = .ref a ∧ H a = some (.dT ws) ∧ Rpk K F H kvs ws f := by
  obtain ⟨f, r⟩ := w
  cases o with
  | false =>
    obtain ⟨a, vs, e1, e2, e3, _⟩ := r
    exact ⟨a, vs, [], e1, s _ _ e2, e3⟩
  | true =>
    obtain ⟨a, vs, g, e1, e2, e3, _⟩ := r
    exact ⟨a, vs, g, e1, e2, e3⟩
/-- what a dict holds at a key -/
theorem dget_of {o : Bool} {kvs : List (List Key × D)} {v y : V} {x : D} {k : List Key} (s : Same F H) (w : WR K F H (.dct o kvs) v) (wy : WR K F H x y) (e : x.key = some k) :
    ∃ a b ws, v = .ref a ∧ y = .ref b ∧ DGet H a y (valV ws k) ∧ Held K F H (valV ws k) (dGet kvs k) := by
  obtain ⟨a, ws, f, rfl, r, p⟩ := w.dict s
  obtain ⟨b, rfl, h1, _⟩ := key_v s wy e
  exact ⟨a, b, ws, rfl, rfl, .inr ⟨ws, k, b, .inl r, rfl, h1, rfl⟩, Rpk.find k p⟩
end
theorem count_own {d : D} (h : d.owns = false) {K : PySem.W.Frag} {F H : Hp} {v : V} (w : WR K F H d v) : Rp K F H d v [] := by
  obtain ⟨f, r⟩ := w
  have := Rp.none d v f h r
  subst this
  exact r
theorem Acc.wr {K : PySem.W.Frag} {F H : Hp} {d : D} {v : V} {Q : VK} (a : Acc K F H d Q) (s : Same F H) (h : d.owns = false) (w : WR K F H d v) : Q v H := a.imm s (count_own h w)
/-! ### a[i] -/
def D.still (d : D) : Option D := if d.owns = false then some d else none
def gIx : D → D → Option D
  | .lst _ ds, .int i => (atI ds i).bind D.still
  | .tup ds, .int i => (atI ds i).bind D.still
  | .str z, .int i => if z.length ≤ sizeLine then (atI z.cps.toList i).map fun c => .str ⟨#[c]⟩ else none
  | .dct _ kvs, y => y.key.bind fun k => (dGet kvs k).bind D.still
  | _, _ => none
theorem still_eq {d d' : D} (h : d.still = some d') : d' = d ∧ d.owns = false := by
  unfold D.still at h
  split at h
  · cases h; exact ⟨rfl, by assumption⟩
  · cases h
theorem atI_wrs {K : PySem.W.Frag} {F H : Hp} {ds : List D} {vs : List V} {i : Int} {d : D} (w : WRs K F H ds vs) (e : atI ds i = some d) : ∃ v, atI vs i = some v ∧ WR K F H d v := by
  unfold atI at e ⊢
  rw [w.len]
  cases q : ixN ds.length i with
  | none => rw [q] at e; cases e
  | some j =>
    rw [q] at e
    exact w.get (i := j) e
section
variable {X : Cx} {ca : Nat → Addr} {W : WX} {pos : Pos}
theorem pair_imp {H0 F0 F H : Hp} {S : Stk} {ρ : Env} {σ : St} {Q : VK} {fa fb : SE} {g : D → D → Option D} {P : D → D → Prop} {R : V → V → Hp → Prop} (I : SIf X.K H0 F0 F S ρ σ H)
    (h : GE X.K ca W H0 F0 S σ H F Q ((fa ρ).bind fun x ρ1 => (fb ρ1).bind fun y ρ2 => .of (g x y) ρ2)) (hP : ∀ x ρ1 y ρ2, fa ρ = .ok x ρ1 → fb ρ1 = .ok y ρ2 → P x y)
    (hR : ∀ x y d v u H2 F2, P x y → Same F2 H2 → WR X.K F2 H2 x v → WR X.K F2 H2 y u → g x y = some d → Acc X.K F2 H2 d Q → R v u H2) : tO X.K ca W fa σ H fun v H1 => tO X.K ca W fb σ H1 fun u H2 => R v u H2 := by
  refine tO.intro I ?_
  cases e : fa ρ with
  | no => rw [e] at h; exact h
  | ex c ρ1 => rw [e] at h; exact h
  | ok x ρ1 =>
    rw [e] at h
    intro v H1 F1 s1 s2 I1 w1
    refine tO.intro I1 ?_
    have h' : GE X.K ca W H0 F0 S σ H F Q ((fb ρ1).bind fun y ρ2 => .of (g x y) ρ2) := h
    cases e2 : fb ρ1 with
    | no => rw [e2] at h'; exact h'
    | ex c ρ2 => rw [e2] at h'; exact h'
    | ok y ρ2 =>
      rw [e2] at h'
      intro u H2 F2 t1 t2 I2 w2
      obtain ⟨d, e3, a⟩ := ge_of (F2 := F2) (H2 := H2) (show GE X.K ca W H0 F0 S σ H F Q (.of (g x y) ρ2) from h') (s1.trans t1) (s2.trans t2) I2
      exact hR x y d v u H2 F2 (hP x ρ1 y ρ2 e e2) I2.sub (w1.mono t2 t1) w2 e3 a
def D.isDct : D → Bool
  | .dct _ _ => true
  | _ => false
def e_ix (fa fb : SE) : SE := e_op gIx fa fb
theorem x_ix {a b : Expr} {fa fb : SE} (hu : X.A.units + 1 < cLine) (ha : QO X ca W a fa) (hb : QO X ca W b fb) (hs : PlainIx b := by exact fun _ _ => rfl) (hn : NoSl b := by exact fun _ _ => rfl) : QE X ca W (.Subscript a b pos) (e_ix fa fb) := by
  refine ((pe_ix ix_seq ha hb hs).qor (pe_dget hu ha hb hn)).qimp fun σ H Q ⟨H0, F0, F, S, ρ, I, h⟩ => ?_
  by_cases isd : ∀ x ρ1 y ρ2, fa ρ = .ok x ρ1 → fb ρ1 = .ok y ρ2 → x.isDct = true
  · refine .inr (pair_imp I h isd fun x y d v u H2 F2 p s w1 w2 e a => ?_)
    cases x with
    | dct o kvs =>
      have e' : (y.key.bind fun k => (dGet kvs k).bind D.still) = some d := by cases o <;> exact e
      cases q : y.key with
      | none => rw [q] at e'; cases e'
      | some k =>
        rw [q, Option.bind_some] at e'
        obtain ⟨a1, b1, ws, ev, ey, g, m⟩ := dget_of s w1 w2 q
        cases q2 : dGet kvs k with
        | none => rw [q2] at e'; cases e'
        | some d2 =>
          rw [q2, Option.bind_some] at e'
          rw [q2] at m
          obtain ⟨v3, m1, m2⟩ := m
          obtain ⟨rfl, ho⟩ := still_eq e'
          rw [m1] at g
          exact ⟨a1, v3, ev, g, a.wr s ho m2⟩
    | _ => cases p
  · have nd : ∀ x ρ1 y ρ2, fa ρ = .ok x ρ1 → fb ρ1 = .ok y ρ2 → x.isDct = false := fun x ρ1 y ρ2 e1 e2 => by
      cases q : x.isDct with
      | false => rfl
      | true =>
        refine absurd (fun x' ρ1' y' ρ2' e1' e2' => ?_) isd
        rw [e1] at e1'
        cases e1'
        exact q
    refine .inl (pair_imp I h nd fun x y d v u H2 F2 p s w1 w2 e a => ?_)
    unfold gIx at e
    split at e
    · rename_i o ds i
      obtain ⟨l, vs, rfl, s1, k1⟩ := w1.list s
      cases q : atI ds i with
      | none => rw [q] at e; cases e
      | some d2 =>
        rw [q] at e
        obtain ⟨rfl, ho⟩ := still_eq e
        obtain ⟨v3, m1, m2⟩ := atI_wrs k1 q
        exact .inl ⟨l, vs, i, v3, rfl, w2.int, s1, m1, a.wr s ho m2⟩
    · rename_i ds i
      obtain ⟨l, vs, rfl, s1, _, k1⟩ := w1.tuple s
      cases q : atI ds i with
      | none => rw [q] at e; cases e
      | some d2 =>
        rw [q] at e
        obtain ⟨rfl, ho⟩ := still_eq e
        obtain ⟨v3, m1, m2⟩ := atI_wrs k1 q
        exact .inr (.inl ⟨l, vs, i, v3, rfl, w2.int, s1, m1, a.wr s ho m2⟩)
    · rename_i z i
      split at e
      · rename_i hz
        cases q : atI z.cps.toList i with
        | none => rw [q] at e; cases e
        | some c =>
          rw [q] at e
          cases e
          exact .inr (.inr ⟨z, i, c, w1.str, w2.int, hz, q, a.imm s (rp_str _)⟩)
      · cases e
    · cases p
    · cases e
/-! ### in, not in -/
def rInQ (K : PySem.W.Frag) (neg : Bool) : R2 := fun x y H Q => ∃ d ds, Dp K H x d ∧ (Dp K H y (.list ds) ∨ Dp K H y (.tuple ds)) ∧ SeqAt.shaped d = true ∧ SeqAt.shaped (.list ds) = true ∧ Q (.bl (if neg then !ds.any fun z => PyData.eqv z d else ds.any fun z => PyData.eqv z d)) H
theorem op_inQ (hu : X.A.units + 65 < cLine) : OpR X (compareOp .In) (rInQ X.K false) := by
  intro pins s σ H x y v u Q I rx ry h
  obtain ⟨d, ds, hd, he, sd, se, q⟩ := h
  rcases he with he | he
  · exact op_inD hu pins s σ H x y v u Q I rx ry ⟨d, ds, hd, he, sd, se, q⟩
  · obtain ⟨as, r1⟩ := Dp.reads I d x v hd rx
    obtain ⟨bs, r2⟩ := Dp.reads I (.tuple ds) y u he ry
    exact SeqAt.in_tuple_reads r2 r1 (SeqAt.canLay_of_shaped (d := .list ds) se) (SeqAt.canLay_of_shaped sd) (PyProof.Rows.room_in_shaped sd hu) ⟨.bl _, H, I, rfl, q⟩
theorem op_ninQ (hu : X.A.units + 65 < cLine) : OpR X (compareOp .NotIn) (rInQ X.K true) := by
  intro pins s σ H x y v u Q I rx ry h
  obtain ⟨d, ds, hd, he, sd, se, q⟩ := h
  rcases he with he | he
  · exact op_notInD hu pins s σ H x y v u Q I rx ry ⟨d, ds, hd, he, sd, se, q⟩
  · obtain ⟨as, r1⟩ := Dp.reads I d x v hd rx
    obtain ⟨bs, r2⟩ := Dp.reads I (.tuple ds) y u he ry
    exact SeqAt.notIn_tuple_reads r2 r1 (SeqAt.canLay_of_shaped (d := .list ds) se) (SeqAt.canLay_of_shaped sd) (PyProof.Rows.room_in_shaped sd hu) ⟨.bl _, H, I, rfl, q⟩
def gInD (x y : D) : Option D := match y with
  | .dct _ kvs => x.key.map fun k => .bl (dGet kvs k).isSome
  | y => gIn x y
def gNotInD (x y : D) : Option D := match y with
  | .dct _ kvs => x.key.map fun k => .bl (!(dGet kvs k).isSome)
  | y => gNotIn x y
theorem pin_of {K : PySem.W.Frag} {F H : Hp} {x : D} {ys : List D} {v u : V} {b : Bool} (s : Same F H) (w1 : WR K F H x v) (e : D.pin x ys = some b) (w2 : (∃ o, WR K F H (.lst o ys) u) ∨ WR K F H (.tup ys) u) :
    ∃ d ds, Dp K H v d ∧ (Dp K H u (.list ds) ∨ Dp K H u (.tuple ds)) ∧ SeqAt.shaped d = true ∧ SeqAt.shaped (.list ds) = true ∧ b = ds.any fun z => PyData.eqv z d := by
  unfold D.pin at e
  split at e
  · rename_i p bs e1 e2
    split at e
    · rename_i hc
      cases e
      obtain ⟨f1, r1⟩ := w1
      refine ⟨p, bs, dp_of s _ _ _ _ r1 e1, ?_, hc.1, hc.2, rfl⟩
      rcases w2 with ⟨o, f2, r2⟩ | ⟨f2, r2⟩
      · refine .inl (dp_of s _ _ _ _ r2 ?_)
        show (D.pys ys).map PyData.list = _
        rw [e2]; rfl
      · refine .inr (dp_of s _ _ _ _ r2 ?_)
        show (D.pys ys).map PyData.tuple = _
        rw [e2]; rfl
    · cases e
  · cases e
theorem qIn (hu : X.A.units + 65 < cLine) : OpS X (compareOp .In) gIn := by
  refine ⟨_, (op_inQ hu).or op_in_str, fun F H d1 d2 d x y Q s w1 w2 e a => ?_⟩
  unfold gIn at e
  split at e
  · rename_i o ys
    cases q : D.pin d1 ys with
    | none => rw [q] at e; cases e
    | some b =>
      rw [q] at e
      cases e
      obtain ⟨p, bs, h1, h2, h3, h4, rfl⟩ := pin_of s w1 q (.inl ⟨o, w2⟩)
      exact .inl ⟨p, bs, h1, h2, h3, h4, a.imm s (rp_bl _)⟩
  · rename_i ys
    cases q : D.pin d1 ys with
    | none => rw [q] at e; cases e
    | some b =>
      rw [q] at e
      cases e
      obtain ⟨p, bs, h1, h2, h3, h4, rfl⟩ := pin_of s w1 q (.inr w2)
      exact .inl ⟨p, bs, h1, h2, h3, h4, a.imm s (rp_bl _)⟩
  · cases e
    exact .inr ⟨_, _, w1.str, w2.str, a.imm s (rp_bl _)⟩
  · cases e
theorem qNotIn (hu : X.A.units + 65 < cLine) : OpS X (compareOp .NotIn) gNotIn := by
  refine ⟨_, (op_ninQ hu).or op_notin_str, fun F H d1 d2 d x y Q s w1 w2 e a => ?_⟩
  unfold gNotIn at e
  split at e
  · rename_i o ys
    cases q : D.pin d1 ys with
    | none => rw [q] at e; cases e
    | some b =>
      rw [q] at e
      cases e
      obtain ⟨p, bs, h1, h2, h3, h4, rfl⟩ := pin_of s w1 q (.inl ⟨o, w2⟩)
      exact .inl ⟨p, bs, h1, h2, h3, h4, a.imm s (rp_bl _)⟩
  · rename_i ys
    cases q : D.pin d1 ys with
    | none => rw [q] at e; cases e
    | some b =>
      rw [q] at e
      cases e
      obtain ⟨p, bs, h1, h2, h3, h4, rfl⟩ := pin_of s w1 q (.inr w2)
      exact .inl ⟨p, bs, h1, h2, h3, h4, a.imm s (rp_bl _)⟩
  · cases e
    exact .inr ⟨_, _, w1.str, w2.str, a.imm s (rp_bl _)⟩
  · cases e
theorem held_some {K : PySem.W.Frag} {F H : Hp} {o : Option V} {d : Option D} (h : Held K F H o d) : o.isSome = d.isSome := by
  cases d with
  | none => rw [show o = none from h]; rfl
  | some d =>
    obtain ⟨v, rfl, _⟩ := h
    rfl
theorem in_imp (hu : X.A.units + 65 < cLine) {r : R2} (hr : ∀ F H d1 d2 d x y Q, Same F H → WR X.K F H d1 x → WR X.K F H d2 y → gIn d1 d2 = some d → Acc X.K F H d Q → r x y H Q) {fa fb : SE} (σ : St) (H : Hp) (Q : VK) (q : tE X.K ca W (e_op gInD fa fb) σ H Q) :
    tOp r (tO X.K ca W fa) (tO X.K ca W fb) σ H Q ∨ tDIn (tO X.K ca W fa) (tO X.K ca W fb) σ H Q := by
  obtain ⟨H0, F0, F, S, ρ, I, h⟩ := q
  by_cases isd : ∀ x ρ1 y ρ2, fa ρ = .ok x ρ1 → fb ρ1 = .ok y ρ2 → y.isDct = true
  · refine .inr (pair_imp I h isd fun x y d v u H2 F2 p s w1 w2 e a => ?_)
    cases y with
    | dct o kvs =>
      have e' : (x.key.map fun k => D.bl (dGet kvs k).isSome) = some d := e
      cases q : x.key with
      | none => rw [q] at e'; cases e'
      | some k =>
        rw [q] at e'
        cases e'
        obtain ⟨a1, b1, ws, ev, ey, g, m⟩ := dget_of s w2 w1 q
        exact ⟨a1, _, ev, g, by rw [held_some m]; exact a.imm s (rp_bl _)⟩
    | _ => cases p
  · have nd : ∀ x ρ1 y ρ2, fa ρ = .ok x ρ1 → fb ρ1 = .ok y ρ2 → y.isDct = false := fun x ρ1 y ρ2 e1 e2 => by
      cases q : y.isDct with
      | false => rfl
      | true =>
        refine absurd (fun x' ρ1' y' ρ2' e1' e2' => ?_) isd
        rw [e1] at e1'
        cases e1'
        rw [e2] at e2'
        cases e2'
        exact q
    refine .inl (pair_imp I h nd fun x y d v u H2 F2 p s w1 w2 e a => hr F2 H2 x y d v u Q s w1 w2 ?_ a)
    cases y <;> first | exact e | cases p
theorem nin_imp (hu : X.A.units + 65 < cLine) {r : R2} (hr : ∀ F H d1 d2 d x y Q, Same F H → WR X.K F H d1 x → WR X.K F H d2 y → gNotIn d1 d2 = some d → Acc X.K F H d Q → r x y H Q) {fa fb : SE} (σ : St) (H : Hp) (Q : VK) (q : tE X.K ca W (e_op gNotInD fa fb) σ H Q) :
    tOp r (tO X.K ca W fa) (tO X.K ca W fb) σ H Q ∨ tDNotIn (tO X.K ca W fa) (tO X.K ca W fb) σ H Q := by
  obtain ⟨H0, F0, F, S, ρ, I, h⟩ := q
  by_cases isd : ∀ x ρ1 y ρ2, fa ρ = .ok x ρ1 → fb ρ1 = .ok y ρ2 → y.isDct = true
  · refine .inr (pair_imp I h isd fun x y d v u H2 F2 p s w1 w2 e a => ?_)
    cases y with
    | dct o kvs =>
      have e' : (x.key.map fun k => D.bl (!(dGet kvs k).isSome)) = some d := e
      cases q : x.key with
      | none => rw [q] at e'; cases e'
      | some k =>
        rw [q] at e'
        cases e'
        obtain ⟨a1, b1, ws, ev, ey, g, m⟩ := dget_of s w2 w1 q
        exact ⟨a1, _, ev, g, by rw [held_some m]; exact a.imm s (rp_bl _)⟩
    | _ => cases p
  · have nd : ∀ x ρ1 y ρ2, fa ρ = .ok x ρ1 → fb ρ1 = .ok y ρ2 → y.isDct = false := fun x ρ1 y ρ2 e1 e2 => by
      cases q : y.isDct with
      | false => rfl
      | true =>
        refine absurd (fun x' ρ1' y' ρ2' e1' e2' => ?_) isd
        rw [e1] at e1'
        cases e1'
        rw [e2] at e2'
        cases e2'
        exact q
    refine .inl (pair_imp I h nd fun x y d v u H2 F2 p s w1 w2 e a => hr F2 H2 x y d v u Q s w1 w2 ?_ a)
    cases y <;> first | exact e | cases p
theorem _root_.L2.tTest_or {t t' : TE} {σ : St} {H : Hp} {Q : Bool → Hp → Prop} (h : tTest (fun σ H Q => t σ H Q ∨ t' σ H Q) σ H Q) : tTest t σ H Q ∨ tTest t' σ H Q := h
theorem x_in {a b : Expr} {fa fb : SE} (hu : X.A.units + 65 < cLine) (ha : QO X ca W a fa) (hb : QO X ca W b fb) (hm : behindInMarks .In b = false := by first | rfl | with_unfolding_all rfl) : QE X ca W (.Compare a [.In] [b] pos) (e_op gInD fa fb) := by
  obtain ⟨r, h1, h2⟩ := qIn (X := X) hu
  exact ((pe_cmpR h1 ha hb hm).qor (pe_cmp (pc_din (by omega) ha hb) hm)).qimp (in_imp hu h2)
theorem x_tin {a b : Expr} {fa fb : SE} (hu : X.A.units + 65 < cLine) (ha : QO X ca W a fa) (hb : QO X ca W b fb) (hm : behindInMarks .In b = false := by first | rfl | with_unfolding_all rfl) : QT X ca W (.Compare a [.In] [b] pos) (t_of (e_op gInD fa fb)) := by
  obtain ⟨r, h1, h2⟩ := qIn (X := X) hu
  exact ((pt_cmpR h1 ha hb hm).qor (pt_cmp (pc_din (by omega) ha hb) hm)).qimp fun σ H Q q => tTest_or (test_of (in_imp hu h2) σ H Q q)
theorem x_nin {a b : Expr} {fa fb : SE} (hu : X.A.units + 65 < cLine) (ha : QO X ca W a fa) (hb : QO X ca W b fb) (hm : behindInMarks .NotIn b = false := by first | rfl | with_unfolding_all rfl) : QE X ca W (.Compare a [.NotIn] [b] pos) (e_op gNotInD fa fb) := by
  obtain ⟨r, h1, h2⟩ := qNotIn (X := X) hu
  exact ((pe_cmpR h1 ha hb hm).qor (pe_cmp (pc_dnotin (by omega) ha hb) hm)).qimp (nin_imp hu h2)
theorem x_tnin {a b : Expr} {fa fb : SE} (hu : X.A.units + 65 < cLine) (ha : QO X ca W a fa) (hb : QO X ca W b fb) (hm : behindInMarks .NotIn b = false := by first | rfl | with_unfolding_all rfl) : QT X ca W (.Compare a [.NotIn] [b] pos) (t_of (e_op gNotInD fa fb)) := by
  obtain ⟨r, h1, h2⟩ := qNotIn (X := X) hu
  exact ((pt_cmpR h1 ha hb hm).qor (pt_cmp (pc_dnotin (by omega) ha hb) hm)).qimp fun σ H Q q => tTest_or (test_of (nin_imp hu h2) σ H Q q)
end
end OL

namespace OL
open PySem PySem.Spec L2
/-! ### slices -/
def p_none : Env → RE (Option Int) := fun ρ => .ok none ρ
def p_some (f : SE) : Env → RE (Option Int) := fun ρ => (f ρ).bind fun d ρ1 => match d with
  | .int i => .ok (some i) ρ1
  | _ => .no
def tPo (K : PySem.W.Frag) (ca : Nat → Addr) (W : WX) (f : Env → RE (Option Int)) : TO := fun σ H Q => ∃ H0 F0 F S ρ, SIf K H0 F0 F S ρ σ H ∧ match f ρ with
  | .ok b ρ' => ∀ H' F', Same H H' → Same F F' → SIf K H0 F0 F' S ρ' σ H' → Q b H'
  | .ex c ρ' => ∀ H' F', SIf K H0 F0 F' S ρ' σ H' → W (.ref (ca c)) none σ H'
  | .no => False
theorem _root_.L2.PO.qimp {X : Cx} {e : Option Expr} {t t' : TO} (h : PO X e t) (i : ∀ σ H Q, t' σ H Q → t σ H Q) : PO X e t' := ⟨fun pins s σ H Q I q => h.run pins s σ H Q I (i σ H Q q)⟩
abbrev QPo (X : Cx) (ca : Nat → Addr) (W : WX) (e : Option Expr) (f : Env → RE (Option Int)) : Prop := PO X e (tPo X.K ca W f)
def cutL {α : Type} (xs : List α) (lo hi : Option Int) : List α := (xs.drop (HT.sIx xs.length 0 lo)).take (HT.sIx xs.length xs.length hi - HT.sIx xs.length 0 lo)
def gSl : D → Option Int → Option Int → Option D
  | .lst _ ds, lo, hi => if D.ownss ds = false then some (.lst true (cutL ds lo hi)) else none
  | .tup ds, lo, hi => if D.ownss ds = false then some (.tup (cutL ds lo hi)) else none
  | .str z, lo, hi => if z.length ≤ sizeLine then some (.str (cutS z lo hi)) else none
  | _, _, _ => none
def e_sl (fa : SE) (fl fh : Env → RE (Option Int)) : SE := fun ρ => (fa ρ).bind fun x ρ1 => (fl ρ1).bind fun l ρ2 => (fh ρ2).bind fun u ρ3 => .of (gSl x l u) ρ3
theorem own_take : ∀ (ds : List D) (n : Nat), D.ownss ds = false → D.ownss (ds.take n) = false
  | ds, 0, _ => rfl
  | [], n + 1, _ => rfl
  | d :: ds, n + 1, h => by
    have h' : (d.owns || D.ownss ds) = false := h
    rw [Bool.or_eq_false_iff] at h'
    show (d.owns || D.ownss (ds.take n)) = false
    rw [h'.1, own_take ds n h'.2]; rfl
theorem own_drop : ∀ (ds : List D) (n : Nat), D.ownss ds = false → D.ownss (ds.drop n) = false
  | ds, 0, h => h
  | [], n + 1, _ => rfl
  | d :: ds, n + 1, h => by
    have h' : (d.owns || D.ownss ds) = false := h
    rw [Bool.or_eq_false_iff] at h'
    exact own_drop ds n h'.2
theorem wrs_cut {K : PySem.W.Frag} {F H : Hp} {ds : List D} {vs : List V} (w : WRs K F H ds vs) (lo hi : Option Int) : WRs K F H (cutL ds lo hi) (cutV vs lo hi) := by
  unfold cutL cutV
  rw [w.len]
  exact (w.drop _).take _
theorem own_cut {ds : List D} (h : D.ownss ds = false) (lo hi : Option Int) : D.ownss (cutL ds lo hi) = false := own_take _ _ (own_drop _ _ h)
section
variable {X : Cx} {ca : Nat → Addr} {W : WX} {pos : Pos}
theorem xp_none : QPo X ca W none p_none := po_none.qimp fun σ H Q ⟨H0, F0, F, S, ρ, I, h⟩ => h H F (Same.refl _) (Same.refl _) I
abbrev GPo (K : PySem.W.Frag) (ca : Nat → Addr) (W : WX) (H0 F0 : Hp) (S : Stk) (σ : St) (H F : Hp) (Q : Option Int → Hp → Prop) (r : RE (Option Int)) : Prop := match r with
  | .ok b ρ' => ∀ H' F', Same H H' → Same F F' → SIf K H0 F0 F' S ρ' σ H' → Q b H'
  | .ex c ρ' => ∀ H' F', SIf K H0 F0 F' S ρ' σ H' → W (.ref (ca c)) none σ H'
  | .no => False
theorem xp_some {e : Expr} {f : SE} (h : QO X ca W e f) : QPo X ca W (some e) (p_some f) := (po_some h).qimp fun σ H Q ⟨H0, F0, F, S, ρ, I, h⟩ =>
  tO.go (G := GPo X.K ca W H0 F0 S σ H F Q) I h (fun c ρ' z => z) (fun z => z) fun x ρ1 v H1 F1 h1 s1 s2 I1 w1 => by
    cases x with
    | int i => exact ⟨i, w1.int, h1 H1 F1 s1 s2 I1⟩
    | _ => exact h1.elim
theorem tPo.go {α : Type} {H0 F0 F H : Hp} {S : Stk} {ρ : Env} {σ : St} {f : Env → RE (Option Int)} {k : Option Int → Env → RE α} {Q : Option Int → Hp → Prop} {G : RE α → Prop} (I : SIf X.K H0 F0 F S ρ σ H) (h : G ((f ρ).bind k))
    (hex : ∀ c ρ', G (.ex c ρ') → ∀ H' F', SIf X.K H0 F0 F' S ρ' σ H' → W (.ref (ca c)) none σ H') (hno : ¬ G .no)
    (hok : ∀ b ρ' H' F', G (k b ρ') → Same H H' → Same F F' → SIf X.K H0 F0 F' S ρ' σ H' → Q b H') : tPo X.K ca W f σ H Q := by
  refine ⟨H0, F0, F, S, ρ, I, ?_⟩
  cases e : f ρ with
  | ok d ρ' => rw [e] at h; exact fun H' F' s1 s2 J => hok d ρ' H' F' h s1 s2 J
  | ex c ρ' => rw [e] at h; exact hex c ρ' h
  | no => rw [e] at h; exact hno h
theorem x_sl {e : Expr} {lo hi : Option Expr} {p2 : Pos} {fa : SE} {fl fh : Env → RE (Option Int)} (ha : QO X ca W e fa) (hl : QPo X ca W lo fl) (hh : QPo X ca W hi fh) : QE X ca W (.Subscript e (.Slice lo hi none p2) pos) (e_sl fa fl fh) :=
  (pe_slice (sl_list.or (sl_tupU.or sl_str)) ha hl hh).qimp fun σ H Q ⟨H0, F0, F, S, ρ, I, h⟩ =>
  tO.go (G := GE X.K ca W H0 F0 S σ H F Q) I h (fun c ρ' z => z) (fun z => z) fun x ρ1 v H1 F1 h1 s1 s2 I1 w1 =>
  tPo.go (G := GE X.K ca W H0 F0 S σ H F Q) I1 h1 (fun c ρ' z => z) (fun z => z) fun l ρ2 H2 F2 h2 t1 t2 I2 =>
  tPo.go (G := GE X.K ca W H0 F0 S σ H F Q) I2 h2 (fun c ρ' z => z) (fun z => z) fun u ρ3 H3 F3 h3 q1 q2 I3 => by
    obtain ⟨d, e, a⟩ := ge_of (F2 := F3) (H2 := H3) h3 ((s1.trans t1).trans q1) ((s2.trans t2).trans q2) I3
    have w3 := (w1.mono t2 t1).mono q2 q1
    have s := I3.sub
    unfold gSl at e
    split at e
    · split at e
      · rename_i ho
        cases e
        obtain ⟨b, vs, rfl, z1, k1⟩ := w3.list s
        exact .inl ⟨b, vs, rfl, z1, fun p np => a.lst s (WRs.none (own_cut ho _ _) (wrs_cut k1 _ _)) np⟩
      · cases e
    · split at e
      · rename_i ho
        cases e
        obtain ⟨b, vs, rfl, z1, z2, k1⟩ := w3.tuple s
        refine .inr (.inl ⟨b, vs, rfl, z1, fun hw => ?_, fun _ => a.tupN s (WRs.none (own_cut ho _ _) (wrs_cut k1 _ _))⟩)
        rename_i ds
        have e2 : cutL ds l u = ds := by
          unfold cutL
          rw [← k1.len, hw.1, hw.2, k1.len, List.drop_zero, Nat.sub_zero, List.take_length]
        rw [e2] at a
        exact a.imm s ⟨b, vs, rfl, z2, WRs.none ho k1⟩
      · cases e
    · split at e
      · rename_i hz
        cases e
        exact .inr (.inr ⟨_, w3.str, hz, a.imm s (rp_str _)⟩)
      · cases e
    · cases e
/-! ### built-in functions -/
theorem _root_.L2.CallR.qor {X : Cx} {f : Value} {r r' : List V → Hp → VK → Prop} (h : CallR X f r) (h' : CallR X f r') : CallR X f (fun xs H Q => r xs H Q ∨ r' xs H Q) := by
  intro pins s σ H xs us Q I rv q
  rcases q with q | q
  · exact h pins s σ H xs us Q I rv q
  · exact h' pins s σ H xs us Q I rv q
def CallS (X : Cx) (f : Value) (g : List D → Option D) : Prop := ∃ r, CallR X f r ∧ ∀ F H ds d vs Q, Same F H → WRs X.K F H ds vs → g ds = some d → Acc X.K F H d Q → r vs H Q
def e_callB (g : List D → Option D) (f : SEs) : SE := fun ρ => (f ρ).bind fun ds ρ1 => .of (g ds) ρ1
theorem callB_imp {f : SEs} {g : List D → Option D} {r : List V → Hp → VK → Prop} (hr : ∀ F H ds d vs Q, Same F H → WRs X.K F H ds vs → g ds = some d → Acc X.K F H d Q → r vs H Q) (σ : St) (H : Hp) (Q : VK) (q : tE X.K ca W (e_callB g f) σ H Q) :
    tCB r (tOs X.K ca W f) σ H Q := by
  obtain ⟨H0, F0, F, S, ρ, I, h⟩ := q
  refine tOs.go (G := GE X.K ca W H0 F0 S σ H F Q) I h (fun c ρ' z => z) (fun z => z) fun ds ρ1 vs H1 F1 h1 s1 s2 I1 w1 => ?_
  obtain ⟨d, e, a⟩ := ge_of (F2 := F1) (H2 := H1) h1 s1 s2 I1
  exact hr F1 H1 ds d vs Q I1.sub w1 e a
theorem x_callB {x : Str} {id : String} {p : Pos} {e : Expr} {es : List Expr} {f : SEs} {g : List D → Option D} (hc : CallS X (.builtin id) g) (hg : Gl X x) (hm : X.mg x = none) (hv : bootBuiltins x = some (.builtin id)) (ha : QOs X ca W (e :: es) f)
    (hn : x ≠ "__name__" := by decide) (hdb : (x == ("__debug__" : Str)) = false := by decide) (he : starEach (e :: es) X.env = (false, eval e X.env) :: starEach es X.env := by rfl) (hpl : (backTo pos (starEach es X.env)).any (·.1) = false := by rfl) :
    QE X ca W (.Call (.Name x p) (e :: es) [] pos) (e_callB g f) := by
  obtain ⟨r, h1, h2⟩ := hc
  exact (pe_callB h1 hg hm hv ha hn hdb he hpl).qimp (callB_imp h2)
theorem x_callTy {x : Str} {T : String} {p : Pos} {e : Expr} {es : List Expr} {f : SEs} {g : List D → Option D} (hc : CallS X (.type T) g) (hg : Gl X x) (hm : X.mg x = none) (hv : bootBuiltins x = some (.type T)) (ha : QOs X ca W (e :: es) f)
    (hn : x ≠ "__name__" := by decide) (hdb : (x == ("__debug__" : Str)) = false := by decide) (he : starEach (e :: es) X.env = (false, eval e X.env) :: starEach es X.env := by rfl) (hpl : (backTo pos (starEach es X.env)).any (·.1) = false := by rfl) :
    QE X ca W (.Call (.Name x p) (e :: es) [] pos) (e_callB g f) := by
  obtain ⟨r, h1, h2⟩ := hc
  exact (pe_callTy h1 hg hm hv ha hn hdb he hpl).qimp (callB_imp h2)
def gLen : List D → Option D
  | [.lst _ ds] => some (.int ds.length)
  | [.tup ds] => some (.int ds.length)
  | [.str z] => if z.length ≤ sizeLine then some (.int z.length) else none
  | [.dct _ kvs] => some (.int kvs.length)
  | _ => none
theorem Rpk.len {K : PySem.W.Frag} {F H : Hp} : ∀ {kvs : List (List Key × D)} {ws : List (List Key × V)} {f : List Addr}, Rpk K F H kvs ws f → ws.length = kvs.length
  | [], ws, f, h => by rw [h.1]; rfl
  | (k, d) :: kvs, ws, f, h => by
    obtain ⟨v, wr, f1, f2, rfl, _, e3, e4⟩ := h
    rw [List.length_cons, List.length_cons, Rpk.len e4]
theorem WRs.one {K : PySem.W.Frag} {F H : Hp} {d : D} {vs : List V} (w : WRs K F H [d] vs) : ∃ v, vs = [v] ∧ WR K F H d v := by
  obtain ⟨v, vr, rfl, w1, e⟩ := w
  exact ⟨v, by rw [show vr = [] from e], w1⟩
theorem WRs.two {K : PySem.W.Frag} {F H : Hp} {d e : D} {vs : List V} (w : WRs K F H [d, e] vs) : ∃ v u, vs = [v, u] ∧ WR K F H d v ∧ WR K F H e u := by
  obtain ⟨v, vr, rfl, w1, w2⟩ := w
  obtain ⟨u, rfl, w3⟩ := w2.one
  exact ⟨v, u, rfl, w1, w3⟩
theorem qLen : CallS X (.builtin "len") gLen := by
  refine ⟨_, call_len.qor call_len_dT, fun F H ds d vs Q s w e a => ?_⟩
  unfold gLen at e
  split at e
  · cases e
    obtain ⟨v, rfl, w1⟩ := w.one
    obtain ⟨b, vs, rfl, z1, k1⟩ := w1.list s
    refine .inl ⟨_, vs.length, rfl, .inl ⟨vs, z1, rfl⟩, ?_⟩
    rw [k1.len]
    exact a.imm s (rp_int _)
  · cases e
    obtain ⟨v, rfl, w1⟩ := w.one
    obtain ⟨b, vs, rfl, z1, _, k1⟩ := w1.tuple s
    refine .inl ⟨_, vs.length, rfl, .inr ⟨vs, z1, rfl⟩, ?_⟩
    rw [k1.len]
    exact a.imm s (rp_int _)
  · split at e
    · rename_i hz
      cases e
      obtain ⟨v, rfl, w1⟩ := w.one
      cases w1.str
      exact .inl ⟨_, _, rfl, ⟨hz, rfl⟩, a.imm s (rp_int _)⟩
    · cases e
  · cases e
    obtain ⟨v, rfl, w1⟩ := w.one
    obtain ⟨b, ws, f, rfl, z1, z2⟩ := w1.dict s
    refine .inr ⟨b, ws, rfl, z1, ?_⟩
    rw [z2.len]
    exact a.imm s (rp_int _)
  · cases e
/-- the name of a datum's class -/
def D.ty : D → String
  | .non => "NoneType"
  | .bl _ => "bool"
  | .int _ => "int"
  | .str _ => "str"
  | .tup _ => "tuple"
  | .lst _ _ => "list"
  | .dct _ _ => "dict"
  | .exn _ => ""
def D.isExn : D → Bool
  | .exn _ => true
  | _ => false
theorem tyx_of {K : PySem.W.Frag} {F H : Hp} {d : D} {v : V} (s : Same F H) (w : WR K F H d v) (hx : d.isExn = false) : TyX K H v (.type d.ty) := by
  have sqt : ∀ {a : Addr} {vs : List V}, SqT K H a vs → TyX K H (.ref a) (.type "tuple") := fun {a vs} h => by
    rcases h with (h | ⟨o, h⟩) | ⟨o, its, n, hk, hc, _⟩
    · exact .base (.tup h)
    · exact .fTuple h
    · exact .kTuple hk hc
  have sql : ∀ {a : Addr} {vs : List V}, SqL K H a vs → TyX K H (.ref a) (.type "list") := fun {a vs} h => by
    rcases h with (h | ⟨o, h⟩) | ⟨o, its, n, hk, hc, _⟩
    · exact .base (.lst h)
    · exact .base (.frz h)
    · exact .kList hk hc
  cases d with
  | non => rw [w.non]; exact .base .non
  | bl b => rw [w.bl]; exact .base (.bl b)
  | int i => rw [w.int]; exact .base (.int i)
  | str x => rw [w.str]; exact .base (.str x)
  | tup ds =>
    obtain ⟨a, vs, rfl, z1, _, _⟩ := w.tuple s
    exact sqt z1
  | lst o ds =>
    obtain ⟨a, vs, rfl, z1, _⟩ := w.list s
    exact sql z1
  | dct o kvs =>
    obtain ⟨a, ws, f, rfl, z1, _⟩ := w.dict s
    exact .base (.dT z1)
  | exn C => cases hx
end
end OL

namespace OL
open PySem PySem.Spec L2
/-! ### more built-ins -/
def gIs (T : String) (x : D) : Option D := if x.isExn = true then none else (kitB x.ty T).map D.bl
def e_isi (T : String) (fa : SE) : SE := fun ρ => (fa ρ).bind fun x ρ1 => .of (gIs T x) ρ1
def gInt : List D → Option D
  | [.int i] => some (.int i)
  | [.bl k] => some (.int (if k = true then 1 else 0))
  | _ => none
def gStr : List D → Option D
  | [.int i] => if i.natAbs.log2 < 1920 then some (.str (toString i)) else none
  | [.str x] => some (.str x)
  | _ => none
def gAbs : List D → Option D
  | [.int i] => some (.int (if i < 0 then -i else i))
  | _ => none
def gList : List D → Option D
  | [.lst _ ds] => if D.ownss ds = false then some (.lst true ds) else none
  | [.tup ds] => if D.ownss ds = false then some (.lst true ds) else none
  | _ => none
def gTuple : List D → Option D
  | [.lst _ ds] => if D.ownss ds = false then some (.tup ds) else none
  | [.tup ds] => if D.ownss ds = false then some (.tup ds) else none
  | _ => none
/-- a list of numbers -/
def D.ints : List D → Option (List Int)
  | [] => some []
  | .int i :: ds => (D.ints ds).map (i :: ·)
  | _ => none
def gSum : List D → Option D
  | [.lst _ ds] => (D.ints ds).map fun ns => .int ns.sum
  | _ => none
/-- a list of texts -/
def D.strs : List D → Option (List Str)
  | [] => some []
  | .str i :: ds => (D.strs ds).map (i :: ·)
  | _ => none
section
variable {K : PySem.W.Frag} {F H : Hp}
theorem ints_v : ∀ {ds : List D} {vs : List V} {ns : List Int}, WRs K F H ds vs → D.ints ds = some ns → vs = ns.map V.int
  | [], vs, ns, h, e => by cases e; exact h
  | .int i :: ds, vs, ns, h, e => by
    obtain ⟨v, vr, rfl, w1, w2⟩ := h
    have e' : (D.ints ds).map (i :: ·) = some ns := e
    cases q : D.ints ds with
    | none => rw [q] at e'; cases e'
    | some ms =>
      rw [q] at e'
      cases e'
      rw [w1.int, ints_v w2 q]
      rfl
  | .non :: ds, vs, ns, h, e => nomatch e
  | .bl _ :: ds, vs, ns, h, e => nomatch e
  | .str _ :: ds, vs, ns, h, e => nomatch e
  | .tup _ :: ds, vs, ns, h, e => nomatch e
  | .lst _ _ :: ds, vs, ns, h, e => nomatch e
  | .dct _ _ :: ds, vs, ns, h, e => nomatch e
  | .exn _ :: ds, vs, ns, h, e => nomatch e
theorem strs_v : ∀ {ds : List D} {vs : List V} {ns : List Str}, WRs K F H ds vs → D.strs ds = some ns → vs = ns.map V.str
  | [], vs, ns, h, e => by cases e; exact h
  | .str i :: ds, vs, ns, h, e => by
    obtain ⟨v, vr, rfl, w1, w2⟩ := h
    have e' : (D.strs ds).map (i :: ·) = some ns := e
    cases q : D.strs ds with
    | none => rw [q] at e'; cases e'
    | some ms =>
      rw [q] at e'
      cases e'
      rw [w1.str, strs_v w2 q]
      rfl
  | .non :: ds, vs, ns, h, e => nomatch e
  | .bl _ :: ds, vs, ns, h, e => nomatch e
  | .int _ :: ds, vs, ns, h, e => nomatch e
  | .tup _ :: ds, vs, ns, h, e => nomatch e
  | .lst _ _ :: ds, vs, ns, h, e => nomatch e
  | .dct _ _ :: ds, vs, ns, h, e => nomatch e
  | .exn _ :: ds, vs, ns, h, e => nomatch e
end
section
variable {X : Cx} {ca : Nat → Addr} {W : WX} {pos : Pos}
theorem x_isi {x y : Str} {T : String} {p p2 : Pos} {e : Expr} {f : SE} (hg : Gl X x) (hm : X.mg x = none) (hv : bootBuiltins x = some (.builtin "isinstance")) (hg2 : Gl X y) (hm2 : X.mg y = none) (hv2 : bootBuiltins y = some (.type T)) (ha : QO X ca W e f)
    (hn : x ≠ "__name__" := by decide) (hdb : (x == ("__debug__" : Str)) = false := by decide) (hn2 : y ≠ "__name__" := by decide) (hdb2 : (y == ("__debug__" : Str)) = false := by decide)
    (hs1 : starEach [e, .Name y p2] X.env = (false, eval e X.env) :: starEach [.Name y p2] X.env := by rfl) (hs2 : starEach [.Name y p2] X.env = (false, eval (.Name y p2) X.env) :: starEach [] X.env := by rfl)
    (hpl : (backTo pos (starEach [.Name y p2] X.env)).any (·.1) = false := by rfl) :
    QE X ca W (.Call (.Name x p) [e, .Name y p2] [] pos) (e_isi T f) := by
  refine (pe_callB call_isi hg hm hv (pa_cons ha (pa_cons (pe_bltn (v := .ty T) hg2 hm2 hv2 rfl hn2 hdb2) pa_nil hs2) hs1) hn hdb hs1 hpl).qimp fun σ H Q ⟨H0, F0, F, S, ρ, I, h⟩ => ?_
  refine tO.go (G := GE X.K ca W H0 F0 S σ H F Q) I h (fun c ρ' z => z) (fun z => z) fun d ρ1 v H1 F1 h1 s1 s2 I1 w1 => ?_
  obtain ⟨r, e, a⟩ := ge_of (F2 := F1) (H2 := H1) h1 s1 s2 I1
  unfold gIs at e
  cases hx : d.isExn with
  | true => rw [hx, if_pos rfl] at e; cases e
  | false =>
    rw [hx, if_neg Bool.false_ne_true] at e
    cases q : kitB d.ty T with
    | none => rw [q] at e; cases e
    | some b =>
      rw [q] at e
      cases e
      exact ⟨v, .ty T, .type d.ty, .type T, b, rfl, .ty T, tyx_of I1.sub w1 hx, kit_ty q, a.imm I1.sub (rp_bl _)⟩
theorem qInt : CallS X (.type "int") gInt := by
  refine ⟨_, call_int1, fun F H ds d vs Q s w e a => ?_⟩
  unfold gInt at e
  split at e
  · cases e
    obtain ⟨v, rfl, w1⟩ := w.one
    cases w1.int
    exact .inl ⟨_, rfl, a.imm s (rp_int _)⟩
  · cases e
    obtain ⟨v, rfl, w1⟩ := w.one
    cases w1.bl
    exact .inr ⟨_, rfl, a.imm s (rp_int _)⟩
  · cases e
theorem qStr : CallS X (.type "str") gStr := by
  refine ⟨_, call_str_int.qor SkE.call_str_str, fun F H ds d vs Q s w e a => ?_⟩
  unfold gStr at e
  split at e
  · split at e
    · rename_i hz
      cases e
      obtain ⟨v, rfl, w1⟩ := w.one
      cases w1.int
      exact .inl ⟨_, rfl, hz, a.imm s (rp_str _)⟩
    · cases e
  · cases e
    obtain ⟨v, rfl, w1⟩ := w.one
    cases w1.str
    exact .inr ⟨_, rfl, a.imm s (rp_str _)⟩
  · cases e
theorem qAbs : CallS X (.builtin "abs") gAbs := by
  refine ⟨_, call_abs, fun F H ds d vs Q s w e a => ?_⟩
  unfold gAbs at e
  split at e
  · cases e
    obtain ⟨v, rfl, w1⟩ := w.one
    cases w1.int
    exact ⟨_, rfl, a.imm s (rp_int _)⟩
  · cases e
theorem qList : CallS X (.type "list") gList := by
  refine ⟨_, call_list_of, fun F H ds d vs Q s w e a => ?_⟩
  unfold gList at e
  split at e
  · split at e
    · rename_i ho
      cases e
      obtain ⟨v, rfl, w1⟩ := w.one
      obtain ⟨b, vs, rfl, z1, k1⟩ := w1.list s
      exact ⟨b, vs, rfl, .inl z1, fun p np => a.lst s (WRs.none ho k1) np⟩
    · cases e
  · split at e
    · rename_i ho
      cases e
      obtain ⟨v, rfl, w1⟩ := w.one
      obtain ⟨b, vs, rfl, z1, _, k1⟩ := w1.tuple s
      exact ⟨b, vs, rfl, .inr z1, fun p np => a.lst s (WRs.none ho k1) np⟩
    · cases e
  · cases e
theorem qTuple : CallS X (.type "tuple") gTuple := by
  refine ⟨_, call_tupleU, fun F H ds d vs Q s w e a => ?_⟩
  unfold gTuple at e
  split at e
  · split at e
    · rename_i ho
      cases e
      obtain ⟨v, rfl, w1⟩ := w.one
      obtain ⟨b, vs, rfl, z1, k1⟩ := w1.list s
      exact ⟨b, vs, rfl, .inl ⟨z1, a.tupN s (WRs.none ho k1)⟩⟩
    · cases e
  · split at e
    · rename_i ho
      cases e
      obtain ⟨v, rfl, w1⟩ := w.one
      obtain ⟨b, vs, rfl, z1, z2, k1⟩ := w1.tuple s
      exact ⟨b, vs, rfl, .inr ⟨z1, a.imm s ⟨b, vs, rfl, z2, WRs.none ho k1⟩⟩⟩
    · cases e
  · cases e
theorem qSum (hc : X.calm = true) : CallS X (.builtin "sum") gSum := by
  refine ⟨_, cr_sum hc, fun F H ds d vs Q s w e a => ?_⟩
  unfold gSum at e
  split at e
  · rename_i o ds
    cases q : D.ints ds with
    | none => rw [q] at e; cases e
    | some ns =>
      rw [q] at e
      cases e
      obtain ⟨v, rfl, w1⟩ := w.one
      obtain ⟨b, vs, rfl, z1, k1⟩ := w1.list s
      have := ints_v k1 q
      subst this
      exact ⟨b, ns, rfl, z1, a.imm s (rp_int _)⟩
  · cases e
/-- len(set(texts)): how many unlike ones; ours only where they are all unlike or not is asked of their number -/
def e_lenSet (g : List Str → Nat) (fa : SE) : SE := fun ρ => (fa ρ).bind fun x ρ1 => match x with
  | .lst _ ds => .of ((D.strs ds).map fun ss => .int (g ss)) ρ1
  | .tup ds => .of ((D.strs ds).map fun ss => .int (g ss)) ρ1
  | _ => .no
end

/-! ### a def of the program, called -/
abbrev SF := List D → RF
section
variable (K : PySem.W.Frag) (ca : Nat → Addr)
/-- what a def promises: with arguments that stand for ds, frozen, it tells what s tells -/
def spOf (s : SF) : Sp := fun vs H Q E => ∃ ds F0, Same F0 H ∧ Rps K F0 H ds vs [] ∧ match s ds with
  | .ok d => ∀ v H' F', SIf K H F0 F' [([d], [v])] [] [] H' → Q v H'
  | .ex c => ∀ H', Same H H' → E (.ref (ca c)) none H'
  | .no => False
end
def startE (n : Nat) (ds : List D) : Env := ds.map some ++ List.replicate (n - ds.length) none
/-- a def's body as a function of its arguments -/
def RO.out : RO → RF
  | .nx _ => .ok .non
  | .rt d _ => .ok d
  | .ex c _ => .ex c
  | _ => .no
def fnS (p n : Nat) (b : SS) : SF := fun ds => if ds.length = p then (b (startE n ds)).out else .no
section
variable {K : PySem.W.Frag}
theorem rl_none {F H : Hp} : ∀ k : Nat, RL K F H (List.replicate k none) (List.replicate k none) []
  | 0 => ⟨rfl, rfl⟩
  | k + 1 => ⟨none, _, rfl, rl_none k⟩
theorem rl_args {F H : Hp} (k : Nat) : ∀ {ds : List D} {vs : List V}, Rps K F H ds vs [] → RL K F H (ds.map some ++ List.replicate k none) (vs.map some ++ List.replicate k none) []
  | [], vs, h => by
    obtain ⟨rfl, _⟩ := h
    exact rl_none k
  | d :: ds, vs, h => by
    obtain ⟨v, vr, f1, f2, rfl, e, r1, r2⟩ := h
    obtain ⟨rfl, rfl⟩ : f1 = [] ∧ f2 = [] := by simpa using e.symm
    exact ⟨v, _, [], [], rfl, rfl, r1, rl_args k r2⟩
theorem SIf.start {F0 H : Hp} {ds : List D} {vs : List V} {n : Nat} {N : List Str} (s : Same F0 H) (r : Rps K F0 H ds vs []) (hn : N.length = n) : SIf K H F0 F0 [] (startE n ds) (L2.start N vs) H := by
  refine ⟨s, Same.refl _, Same.refl _, fun _ _ _ _ => rfl, [], [], rfl, ?_, fun a => by simp, fun a ha => by simp at ha⟩
  unfold startE L2.start
  rw [hn, Rps.len r]
  exact rl_args _ r
theorem SIf.done {H0 F0 F H : Hp} {S : Stk} {ρ : Env} {σ : List (Option V)} {d : D} {v : V} (I : SIf K H0 F0 F (([d], [v]) :: S) ρ σ H) : SIf K H0 F0 F [([d], [v])] [] [] H := by
  obtain ⟨f, g, ⟨f1, f2, e1, r0, r1⟩, r2, c, o⟩ := I.ex
  subst e1
  exact ⟨I.sub, I.h0, I.f0, I.grow, f1 ++ [], [], ⟨f1, [], rfl, r0, rfl⟩, ⟨rfl, rfl⟩, fun a => by
    have := c a
    simp only [List.count_append, List.count_nil] at this ⊢
    omega, fun a ha => o a (.inl (by simp at ha; exact List.mem_append_left _ ha))⟩
theorem _root_.OL.spOf_len {ca : Nat → Addr} {s : SF} {m : Nat} (hm : ∀ ds, s ds ≠ .no → ds.length = m) : ∀ vs H Q E, spOf K ca s vs H Q E → vs.length = m := fun vs H Q E ⟨ds, F0, _, r, h⟩ => by
  rw [Rps.len r]
  refine hm ds fun z => ?_
  rw [z] at h
  exact h
variable {P : Program} {w : World} {mg : Str → Option Value} {base : Heap}
/-- the rule for a def -/
theorem fn_sound {x qual : Str} {st : Stmt} {f : Addr} {fd : FuncData} {N ps : List Str} {k p n : Nat} {b : SS} {ca : Nat → Addr} (F : Fun K x qual st f fd) (S : FnScope N ps (defScope st)) (hp : ps.length = p) (hn : N.length = n)
    (hb : ∀ (cdv : Value) (A : Around) (outer : List PySem.Env) (s : Shared) (H : Hp) (E : XK) (X : Cx), X = cxOf (L2.CX P w) P w K mg base N qual (defScope st) f cdv A outer s H E → Room k X.A → QSs X ca (fun c d _ H => E c d H) (defBody st) b) :
    FnOk P w K mg base (L2.CX P w) (k + 1) f fd ps (spOf K ca (fnS p n b)) := by
  subst hp
  refine F.okX S (spOf_len fun ds h => ?_) fun cdv A outer s H vs Q E hr hsp => ?_
  · by_cases e : ds.length = ps.length
    · exact e
    · exact absurd (if_neg e) h
  · refine ⟨_, hb cdv A outer s H E _ rfl hr, ?_⟩
    obtain ⟨ds, F0, sF, r, h⟩ := hsp
    unfold fnS at h
    by_cases e : ds.length = ps.length
    · rw [if_pos e] at h
      refine ⟨H, F0, F0, [], startE n ds, SIf.start sF r hn, ?_⟩
      cases q : b (startE n ds) with
      | nx ρ' =>
        rw [q] at h
        exact fun σ' H' F' _ J => h .non H' F' ((J.imm rp_non).done)
      | rt d ρ' =>
        rw [q] at h
        exact fun v σ' H' F' _ J => h v H' F' J.done
      | ex c ρ' =>
        rw [q] at h
        exact fun σ' H' F' J => h H' J.h0
      | bk ρ' => rw [q] at h; exact h.elim
      | ct ρ' => rw [q] at h; exact h.elim
      | no => rw [q] at h; exact h.elim
    · rw [if_neg e] at h
      exact h.elim
end
/-- a call: the arguments lent, what comes is its caller's -/
def callF (s : SF) (ds : List D) (ρ : Env) : RE D := match s (D.frzs ds) with
  | .ok d => if d.clean = true ∨ D.ownss ds = false then .ok d ρ else .no
  | .ex c => .ex c ρ
  | .no => .no
def e_call (s : SF) (f : SEs) : SE := fun ρ => (f ρ).bind fun ds ρ1 => callF s ds ρ1
section
variable {K : PySem.W.Frag} {H0 F0 F H : Hp} {S : Stk} {ρ : Env} {σ : St}
theorem WRs.frz : ∀ {ds : List D} {vs : List V}, Same F H → WRs K F H ds vs → Rps K H H (D.frzs ds) vs []
  | [], vs, _, h => ⟨h, rfl⟩
  | d :: ds, vs, s, h => by
    obtain ⟨v, vr, rfl, ⟨f, r⟩, e3⟩ := h
    exact ⟨v, vr, [], [], rfl, rfl, Rp.frz s d v f (fun b _ o q => q) r, WRs.frz s e3⟩
mutual
theorem frz_none : ∀ d : D, d.owns = false → d.frz = d
  | .non, _ => rfl
  | .bl _, _ => rfl
  | .int _, _ => rfl
  | .str _, _ => rfl
  | .exn _, _ => rfl
  | .tup ds, h => by
    show D.tup (D.frzs ds) = _
    rw [frzs_none ds h]
  | .lst o ds, h => by
    have h' : (o || D.ownss ds) = false := h
    rw [Bool.or_eq_false_iff] at h'
    show D.lst false (D.frzs ds) = _
    rw [frzs_none ds h'.2, h'.1]
  | .dct o ds, h => by
    have h' : (o || D.ownsk ds) = false := h
    rw [Bool.or_eq_false_iff] at h'
    show D.dct false (D.frzk ds) = _
    rw [frzk_none ds h'.2, h'.1]
theorem frzs_none : ∀ ds : List D, D.ownss ds = false → D.frzs ds = ds
  | [], _ => rfl
  | d :: ds, h => by
    have h' : (d.owns || D.ownss ds) = false := h
    rw [Bool.or_eq_false_iff] at h'
    show d.frz :: D.frzs ds = _
    rw [frz_none d h'.1, frzs_none ds h'.2]
theorem frzk_none : ∀ ds : List (List Key × D), D.ownsk ds = false → D.frzk ds = ds
  | [], _ => rfl
  | (k, d) :: ds, h => by
    have h' : (d.owns || D.ownsk ds) = false := h
    rw [Bool.or_eq_false_iff] at h'
    show (k, d.frz) :: D.frzk ds = _
    rw [frz_none d h'.1, frzk_none ds h'.2]
end
/-- what a call needs, what it leaves -/
theorem call_sp {ca : Nat → Addr} {W : WX} {s : SF} {ds : List D} {vs : List V} {Q : VK} {Hs Fs : Hp} (I : SIf K H0 F0 F S ρ σ H) (w : WRs K F H ds vs) (h : GE K ca W H0 F0 S σ Hs Fs Q (callF s ds ρ)) (s1 : Same Hs H) (s2 : Same Fs F) :
    spOf K ca s vs H Q (fun c d H' => W c d σ H') := by
  unfold callF at h
  by_cases own : D.ownss ds = false
  · rw [frzs_none ds own] at h
    refine ⟨ds, F, I.sub, WRs.none own w, ?_⟩
    cases q : s ds with
    | no => rw [q] at h; exact h
    | ex c =>
      rw [q] at h
      exact fun H' t => h H' F (I.ext ⟨t, Same.refl _, I.sub.trans t, fun _ _ _ _ => rfl⟩)
    | ok d =>
      rw [q] at h
      have h' : GE K ca W H0 F0 S σ Hs Fs Q (if d.clean = true ∨ D.ownss ds = false then RE.ok d ρ else .no) := h
      rw [if_pos (.inr own)] at h'
      intro v H' F' J
      obtain ⟨f, g, ⟨f1, f2, e1, r0, r1⟩, r2, c, o⟩ := J.ex
      have G : Grows F H F' H' := ⟨J.h0, J.f0, J.sub, J.grow⟩
      refine h' v H' F' (s1.trans J.h0) (s2.trans J.f0) (I.push G r0 (fun a => ?_) fun a ha => ?_)
      · have := c a
        rw [e1, List.count_append] at this
        omega
      · have := o a (.inl (by rw [e1]; exact List.mem_append_left _ ha))
        exact ⟨this.2, this.1⟩
  · refine ⟨D.frzs ds, H, Same.refl _, WRs.frz I.sub w, ?_⟩
    cases q : s (D.frzs ds) with
    | no => rw [q] at h; exact h
    | ex c =>
      rw [q] at h
      exact fun H' t => h H' F (I.ext ⟨t, Same.refl _, I.sub.trans t, fun _ _ _ _ => rfl⟩)
    | ok d =>
      rw [q] at h
      have h' : GE K ca W H0 F0 S σ Hs Fs Q (if d.clean = true ∨ D.ownss ds = false then RE.ok d ρ else .no) := h
      by_cases cl : d.clean = true
      · rw [if_pos (.inl cl)] at h'
        intro v H' F' J
        obtain ⟨f, g, ⟨f1, f2, e1, r0, r1⟩, r2, c, o⟩ := J.ex
        -- what is frozen for the caller
        have hF : ∀ a o, H a = some o → F' a = some o := fun a o e => J.f0 a o e
        let F2 : Hp := fun a => match H a with
          | some o => if isM o = true then F a else F' a
          | none => F' a
        have e2 : ∀ a o, H a = some o → isM o = true → F2 a = F a := fun a o e m => by
          show (match H a with | some o => if isM o = true then F a else F' a | none => F' a) = F a
          rw [e]
          exact if_pos m
        have e3 : ∀ a o, H a = some o → isM o = false → F2 a = F' a := fun a o e m => by
          show (match H a with | some o => if isM o = true then F a else F' a | none => F' a) = F' a
          rw [e]
          exact if_neg (by rw [m]; exact Bool.false_ne_true)
        have e4 : ∀ a, H a = none → F2 a = F' a := fun a e => by
          show (match H a with | some o => if isM o = true then F a else F' a | none => F' a) = F' a
          rw [e]
        have G : Grows F H F2 H' := ⟨J.h0, fun a x e => by
            have hx := I.sub a x e
            cases m : isM x with
            | true => rw [e2 a x hx m]; exact e
            | false => rw [e3 a x hx m]; exact hF a x hx,
          fun a x e => by
            cases q : H a with
            | none => rw [e4 a q] at e; exact J.sub a x e
            | some y =>
              cases m : isM y with
              | true =>
                rw [e2 a y q m] at e
                exact J.h0 a x (I.sub a x e)
              | false =>
                rw [e3 a y q m] at e
                exact J.sub a x e, fun a x e m => e2 a x e m⟩
        have r0' : Rps K F2 H' [d] [v] f1 := by
          refine Rps.one (Rp.clean (fun a x e m => ?_) d v f1 cl (Rps.of_one r0))
          cases q : H a with
          | none => rw [e4 a q]; exact e
          | some y =>
            have : y = x := by
              have z := hF a y q
              rw [e] at z
              exact (Option.some.inj z).symm
            subst this
            rw [e3 a y q m]
            exact e
        refine h' v H' F2 (s1.trans J.h0) (s2.trans G.ff) (I.push G r0' (fun a => ?_) fun a ha => ?_)
        · have := c a
          rw [e1, List.count_append] at this
          omega
        · have := o a (.inl (by rw [e1]; exact List.mem_append_left _ ha))
          exact ⟨this.2, by rw [e4 a this.2]; exact this.1⟩
      · rw [if_neg (by rintro (z | z); exact cl z; exact own z)] at h'
        exact h'.elim
end
section
variable {X : Cx} {ca : Nat → Addr} {W : WX} {pos : Pos}
theorem x_call {s : SF} {f : SEs} {x : Str} {fa : Addr} {fd : FuncData} {ps : List Str} {k : Nat} {p : Pos} {e : Expr} {es : List Expr} (G : FnOk X.prog X.w X.K X.mg X.base (L2.CX X.prog X.w) k fa fd ps (spOf X.K ca s)) (hr : Room k X.A) (hg : Gl X x) (hm : X.mg x = some (.ref fa)) (hk : PySem.W.keepIn X.K (.ref fa) = true)
    (hb : Binds X.K fd ps []) (tk : Takes X W) (ha : QOs X ca W (e :: es) f) (hdb : (x == ("__debug__" : Str)) = false := by decide) (he : starEach (e :: es) X.env = (false, eval e X.env) :: starEach es X.env := by rfl) (hpl : (backTo pos (starEach es X.env)).any (·.1) = false := by rfl) :
    QE X ca W (.Call (.Name x p) (e :: es) [] pos) (e_call s f) :=
  (pe_callS (E := WE W) G hr hg hm hk hb (fun σ => passAt tk σ) ha hdb he hpl).qimp fun σ H Q ⟨H0, F0, F, S, ρ, I, h⟩ =>
    tOs.go (G := GE X.K ca W H0 F0 S σ H F Q) I h (fun c ρ' z => z) (fun z => z) fun ds ρ1 vs H1 F1 h1 s1 s2 I1 w1 => call_sp I1 w1 h1 s1 s2
end
end OL

namespace OL
open PySem PySem.Spec L2
section
variable {K : PySem.W.Frag} {H0 F0 F F' H H' : Hp} {S : Stk} {ρ : Env} {σ : St} {d : D} {v : V} {ca : Nat → Addr} {W : WX} {i : Nat}
/-- what a statement's wish asks of a result -/
abbrev GS (K : PySem.W.Frag) (ca : Nat → Addr) (W : WX) (H0 F0 : Hp) (S : Stk) (F : Hp) (D : Ends) (r : RO) : Prop := match r with
  | .nx ρ' => ∀ σ' H' F', Same F F' → SIf K H0 F0 F' S ρ' σ' H' → D.nx σ' H'
  | .rt d ρ' => ∀ v σ' H' F', Same F F' → SIf K H0 F0 F' (([d], [v]) :: S) ρ' σ' H' → D.rt v H'
  | .bk ρ' => ∀ σ' H' F', Same F F' → SIf K H0 F0 F' S ρ' σ' H' → D.bk σ' H'
  | .ct ρ' => ∀ σ' H' F', Same F F' → SIf K H0 F0 F' S ρ' σ' H' → D.ct σ' H'
  | .ex c ρ' => ∀ σ' H' F', SIf K H0 F0 F' S ρ' σ' H' → W (.ref (ca c)) none σ' H'
  | .no => False
theorem GS.mono {D : Ends} {r : RO} (h : GS K ca W H0 F0 S F D r) (s : Same F F') : GS K ca W H0 F0 S F' D r := by
  cases r with
  | nx ρ' => exact fun σ' H' F'' t J => h σ' H' F'' (s.trans t) J
  | rt d ρ' => exact fun v σ' H' F'' t J => h v σ' H' F'' (s.trans t) J
  | bk ρ' => exact fun σ' H' F'' t J => h σ' H' F'' (s.trans t) J
  | ct ρ' => exact fun σ' H' F'' t J => h σ' H' F'' (s.trans t) J
  | ex c ρ' => exact h
  | no => exact h
theorem tS.intro {f : SS} {D : Ends} (I : SIf K H0 F0 F S ρ σ H) (h : GS K ca W H0 F0 S F D (f ρ)) : tS K ca W f D σ H := ⟨H0, F0, F, S, ρ, I, h⟩
def RE.st {α : Type} (r : RE α) (k : α → Env → RO) : RO := match r with
  | .ok a ρ => k a ρ
  | .ex c ρ => .ex c ρ
  | .no => .no
@[simp] theorem RE.st_ok {α : Type} (a : α) (ρ : Env) (k : α → Env → RO) : (RE.ok a ρ).st k = k a ρ := rfl
@[simp] theorem RE.st_ex {α : Type} (c : Nat) (ρ : Env) (k : α → Env → RO) : (RE.ex c ρ).st k = .ex c ρ := rfl
@[simp] theorem RE.st_no {α : Type} (k : α → Env → RO) : (RE.no).st k = .no := rfl
theorem tE.st {f : SE} {k : D → Env → RO} {Q : VK} {D : Ends} (I : SIf K H0 F0 F S ρ σ H) (h : GS K ca W H0 F0 S F D ((f ρ).st k))
    (hok : ∀ d ρ' v H' F', GS K ca W H0 F0 S F' D (k d ρ') → Same F F' → SIf K H0 F0 F' (([d], [v]) :: S) ρ' σ H' → Q v H') : tE K ca W f σ H Q := by
  refine tE.intro I ?_
  cases e : f ρ with
  | ok d ρ' => rw [e] at h; exact fun v H' F' s1 s2 J => hok d ρ' v H' F' (GS.mono h s2) s2 J
  | ex c ρ' => rw [e] at h; exact fun H' F' J => h σ H' F' J
  | no => rw [e] at h; exact h
theorem tO.st {f : SE} {k : D → Env → RO} {Q : VK} {D : Ends} (I : SIf K H0 F0 F S ρ σ H) (h : GS K ca W H0 F0 S F D ((f ρ).st k))
    (hok : ∀ d ρ' v H' F', GS K ca W H0 F0 S F' D (k d ρ') → Same H H' → Same F F' → SIf K H0 F0 F' S ρ' σ H' → WR K F' H' d v → Q v H') : tO K ca W f σ H Q := by
  refine tO.intro I ?_
  cases e : f ρ with
  | ok d ρ' => rw [e] at h; exact fun v H' F' s1 s2 J w => hok d ρ' v H' F' (GS.mono h s2) s1 s2 J w
  | ex c ρ' => rw [e] at h; exact fun H' F' J => h σ H' F' J
  | no => rw [e] at h; exact h
theorem tT.st {f : ST} {k : Bool → Env → RO} {Q : Bool → Hp → Prop} {D : Ends} (I : SIf K H0 F0 F S ρ σ H) (h : GS K ca W H0 F0 S F D ((f ρ).st k))
    (hok : ∀ b ρ' H' F', GS K ca W H0 F0 S F' D (k b ρ') → Same F F' → SIf K H0 F0 F' S ρ' σ H' → Q b H') : tT K ca W f σ H Q := by
  refine ⟨H0, F0, F, S, ρ, I, ?_⟩
  cases e : f ρ with
  | ok d ρ' => rw [e] at h; exact fun H' F' s1 s2 J => hok d ρ' H' F' (GS.mono h s2) s2 J
  | ex c ρ' => rw [e] at h; exact fun H' F' J => h σ H' F' J
  | no => rw [e] at h; exact h
/-- the slot's datum, taken out of it -/
theorem SIf.move (I : SIf K H0 F0 F S ρ σ H) (hi : ρ[i]? = some (some d)) : ∃ v, σ[i]? = some (some v) ∧ SIf K H0 F0 F (([d], [v]) :: S) (ρ.set i none) σ H := by
  obtain ⟨f, g, r1, r2, c, o⟩ := I.ex
  obtain ⟨g1, rest, c1, c2, c3, c4⟩ := RL.slot ρ σ g i r2 (lt_of_get hi)
  obtain ⟨v, e, r⟩ := c2 d hi
  have r3 := c4 F H (Same.refl _) (fun _ _ _ q => q) (some v)
  rw [set_same e] at r3
  refine ⟨v, e, I.sub, I.h0, I.f0, I.grow, g1 ++ f, rest, ⟨g1, f, rfl, Rps.one r, r1⟩, r3, fun a => ?_, fun a ha => o a ?_⟩
  · have := c a
    have := c1 a
    rw [List.count_append]
    omega
  · have := c1 a
    rcases ha with ha | ha
    · rcases List.mem_append.mp ha with ha | ha
      · have := List.count_pos_iff.mpr ha
        exact .inr (count_mem (by omega))
      · exact .inl ha
    · have := List.count_pos_iff.mpr ha
      exact .inr (count_mem (by omega))
theorem SIf.write' (I : SIf K H0 F0 F (([d], [v]) :: S) ρ σ H) (i : Nat) : SIf K H0 F0 F S (ρ.set i (some d)) (σ.set i (some v)) H := by
  by_cases hi : i < ρ.length
  · exact I.write hi
  · obtain ⟨f, g, r1, r2, c, o⟩ := I.ex
    have hl := RL.len ρ σ g r2
    rw [List.set_eq_of_length_le (by omega), List.set_eq_of_length_le (by omega)]
    exact I.pop
end
section
variable {X : Cx} {ca : Nat → Addr} {W : WX} {pos : Pos}
def e_mov (i : Nat) : SE := fun ρ => match ρ[i]? with
  | some (some d) => .ok d (ρ.set i none)
  | _ => .no
theorem x_mov {e : Expr} (i : Nat) (h : PE X e (tVar i)) : QE X ca W e (e_mov i) := h.qimp fun σ H Q ⟨H0, F0, F, S, ρ, I, g⟩ => by
  unfold e_mov at g
  cases e : ρ[i]? with
  | none => rw [e] at g; exact g.elim
  | some o =>
    rw [e] at g
    cases o with
    | none => exact g.elim
    | some d =>
      obtain ⟨v, e1, J⟩ := I.move e
      exact ⟨v, e1, g v H F (Same.refl _) (Same.refl _) J⟩
/-! ### blocks -/
def s_nil : SS := fun ρ => .nx ρ
def RO.then (r : RO) (k : Env → RO) : RO := match r with
  | .nx ρ => k ρ
  | r => r
def s_seq (a b : SS) : SS := fun ρ => (a ρ).then b
theorem xss_nil : QSs X ca W [] s_nil := pss_nil.qimp fun D σ H ⟨H0, F0, F, S, ρ, I, h⟩ => h σ H F (Same.refl _) I
theorem xss_cons {st : Stmt} {rest : List Stmt} {a b : SS} (h1 : QS X ca W st a) (h2 : QSs X ca W rest b) : QSs X ca W (st :: rest) (s_seq a b) := (pss_cons h1 h2).qimp fun D σ H ⟨H0, F0, F, S, ρ, I, h⟩ => by
  refine tS.intro I ?_
  have h' : GS X.K ca W H0 F0 S F D ((a ρ).then b) := h
  cases e : a ρ with
  | nx ρ' => rw [e] at h'; exact fun σ' H' F' s J => tS.intro J (GS.mono h' s)
  | rt d ρ' => rw [e] at h'; exact h'
  | bk ρ' => rw [e] at h'; exact h'
  | ct ρ' => rw [e] at h'; exact h'
  | ex c ρ' => rw [e] at h'; exact h'
  | no => rw [e] at h'; exact h'
theorem xss_one {st : Stmt} {a : SS} (h1 : QS X ca W st a) : QSs X ca W [st] a := pss_one h1
theorem x_pass : QS X ca W (.Pass pos) s_nil := ps_pass.qimp fun D σ H ⟨H0, F0, F, S, ρ, I, h⟩ => h σ H F (Same.refl _) I
theorem x_doc {x : Str} {j : Nat} {p : Pos} : QS X ca W (.Expr (.Constant (.str x) j p) pos) s_nil := ps_doc.qimp fun D σ H ⟨H0, F0, F, S, ρ, I, h⟩ => h σ H F (Same.refl _) I
def s_brk : SS := fun ρ => .bk ρ
def s_cont : SS := fun ρ => .ct ρ
theorem x_brk : QS X ca W (.Break pos) s_brk := ps_break.qimp fun D σ H ⟨H0, F0, F, S, ρ, I, h⟩ => h σ H F (Same.refl _) I
theorem x_cont : QS X ca W (.Continue pos) s_cont := ps_continue.qimp fun D σ H ⟨H0, F0, F, S, ρ, I, h⟩ => h σ H F (Same.refl _) I
def s_expr (f : SE) : SS := fun ρ => (f ρ).st fun _ ρ1 => .nx ρ1
theorem x_expr {e : Expr} {f : SE} (he : QO X ca W e f) (hs : swapsWith e none pos.line X.env = pure false := by rfl) : QS X ca W (.Expr e pos) (s_expr f) := (ps_expr he hs).qimp fun D σ H ⟨H0, F0, F, S, ρ, I, h⟩ =>
  tO.st I h fun d ρ' v H' F' g _ s J _ => g σ H' F' (Same.refl _) J
def s_ret (f : SE) : SS := fun ρ => (f ρ).st fun d ρ1 => .rt d ρ1
theorem x_ret {e : Expr} {f : SE} (he : QE X ca W e f) : QS X ca W (.Return (some e) pos) (s_ret f) := (ps_ret he).qimp fun D σ H ⟨H0, F0, F, S, ρ, I, h⟩ =>
  tE.st I h fun d ρ' v H' F' g s J => g v σ H' F' (Same.refl _) J
def s_retN : SS := fun ρ => .rt .non ρ
theorem x_retN : QS X ca W (.Return none pos) s_retN := ps_retN.qimp fun D σ H ⟨H0, F0, F, S, ρ, I, h⟩ => h .non σ H F (Same.refl _) (I.imm rp_non)
def s_if (t : ST) (a b : SS) : SS := fun ρ => (t ρ).st fun c ρ1 => if c = true then a ρ1 else b ρ1
theorem x_ifS {c : Expr} {a b : List Stmt} {t : ST} {fa fb : SS} (hc : QT X ca W c t) (ha : QSs X ca W a fa) (hb : QSs X ca W b fb) : QS X ca W (.If c a b pos) (s_if t fa fb) := (ps_if hc ha hb).qimp fun D σ H ⟨H0, F0, F, S, ρ, I, h⟩ =>
  tT.st I h fun k ρ' H' F' g s J => by
    cases k with
    | true => rw [if_pos rfl] at g ⊢; exact tS.intro J g
    | false => rw [if_neg Bool.false_ne_true] at g ⊢; exact tS.intro J g
/-! ### stores -/
def s_set (i : Nat) (f : SE) : SS := fun ρ => (f ρ).st fun d ρ1 => .nx (ρ1.set i (some d))
theorem x_set {i : Nat} {x : Str} {e : Expr} {f : SE} {p : Pos} (hN : X.N.Nodup) (hi : X.N[i]? = some x) (hx : Loc X.env.scope x) (he : QE X ca W e f) (hs : swapsWith e (some (.Name x p)) pos.line X.env = pure false := by rfl) (hf : X.fn x = true ∨ X.env.scope.names.lookup x = some .local := by first | exact .inl rfl | exact .inr rfl | assumption) :
    QS X ca W (.Assign [.Name x p] e pos) (s_set i f) := (ps_set hN hi hx he hs hf).qimp fun D σ H ⟨H0, F0, F, S, ρ, I, h⟩ =>
  tE.st I h fun d ρ' v H' F' g s J => g _ H' F' (Same.refl _) (J.write' i)
/-- a target -/
abbrev SG := D → Env → Option Env
def g_name (i : Nat) : SG := fun d ρ => some (ρ.set i (some d))
abbrev QG (X : Cx) (e : Expr) (g : SG) : Prop := PG X e (tG X.K g)
theorem xg_name {i : Nat} {x : Str} (hN : X.N.Nodup) (hi : X.N[i]? = some x) (hx : Loc X.env.scope x) (hf : X.fn x = true ∨ X.env.scope.names.lookup x = some .local := by first | exact .inl rfl | exact .inr rfl | assumption) : QG X (.Name x pos) (g_name i) :=
  (pg_name hN hi hx hf).qimp fun v σ H Q ⟨H0, F0, F, S, ρ, d, I, h⟩ => h _ H F (Same.refl _) (I.write' i)
def g_nil : List D → Env → Option Env
  | [], ρ => some ρ
  | _, _ => none
def g_cons (g : SG) (r : List D → Env → Option Env) : List D → Env → Option Env
  | d :: ds, ρ => (g d ρ).bind (r ds)
  | [], _ => none
/-- (a, b, ..) = a tuple of things that own nothing -/
def g_tup (r : List D → Env → Option Env) : SG := fun d ρ => match d with
  | .tup ds => if D.ownss ds = false then r ds ρ else none
  | _ => none
def tGs (K : PySem.W.Frag) (r : List D → Env → Option Env) : TGs := fun vs σ H Q => ∃ H0 F0 F S ρ ds, SIf K H0 F0 F S ρ σ H ∧ Rps K F H ds vs [] ∧ match r ds ρ with
  | some ρ' => ∀ σ' H' F', Same F F' → SIf K H0 F0 F' S ρ' σ' H' → Q σ' H'
  | none => False
abbrev QGs (X : Cx) (e : List Expr) (r : List D → Env → Option Env) : Prop := PGs X e (tGs X.K r)
theorem _root_.L2.PGs.qimp {X : Cx} {e : List Expr} {t t' : TGs} (h : PGs X e t) (i : ∀ vs σ H Q, t' vs σ H Q → t vs σ H Q) : PGs X e t' := ⟨fun pins s σ H vs us Q I r q => h.run pins s σ H vs us Q I r (i vs σ H Q q)⟩
theorem xgs_nil : QGs X [] g_nil := pgs_nil.qimp fun vs σ H Q ⟨H0, F0, F, S, ρ, ds, I, r, h⟩ => by
  cases ds with
  | nil => exact ⟨r.1, h σ H F (Same.refl _) I⟩
  | cons d ds => exact h.elim
theorem PG.mono' {X : Cx} {g : TG} {P : Prop} (h : P) : P := h
theorem xgs_cons {i : Nat} {x : Str} {es : List Expr} {r : List D → Env → Option Env} (hN : X.N.Nodup) (hi : X.N[i]? = some x) (hx : Loc X.env.scope x) (h2 : QGs X es r)
    (hs : (assignEach (.Name x pos :: es) X.env).map (·.2) = assign (.Name x pos) X.env :: (assignEach es X.env).map (·.2) := by rfl) (hf : X.fn x = true ∨ X.env.scope.names.lookup x = some .local := by first | exact .inl rfl | exact .inr rfl | assumption) : QGs X (.Name x pos :: es) (g_cons (g_name i) r) :=
  (pgs_cons (pg_name hN hi hx hf) h2 hs).qimp fun vs σ H Q ⟨H0, F0, F, S, ρ, ds, I, rr, h⟩ => by
    cases ds with
    | nil => exact h.elim
    | cons d ds =>
      obtain ⟨v, vr, f1, f2, rfl, e, r1, r2⟩ := rr
      obtain ⟨rfl, rfl⟩ : f1 = [] ∧ f2 = [] := by simpa using e.symm
      exact ⟨v, vr, rfl, H0, F0, F, S, _, ds, (I.imm r1).write' i, r2, h⟩
theorem xg_tup {es : List Expr} {k : Nat} {r : List D → Env → Option Env} {n : Nat} (hc : X.calm = true) (h : QGs X es r) (hlen : ∀ ds ρ ρ', r ds ρ = some ρ' → ds.length = n)
    (hn : (assignEach es X.env).length = n := by rfl) (hst : (assignEach es X.env).findIdx? (·.1) = none := by rfl) : QG X (.Tuple es k pos) (g_tup r) :=
  (pg_tup hc h hn hst).qimp fun v σ H Q ⟨H0, F0, F, S, ρ, d, I, h⟩ => by
    cases d with
    | tup ds =>
      have h' : match (if D.ownss ds = false then r ds ρ else none) with
        | some ρ' => ∀ σ' H' F', Same F F' → SIf X.K H0 F0 F' S ρ' σ' H' → Q σ' H'
        | none => False := h
      by_cases ho : D.ownss ds = false
      · rw [if_pos ho] at h'
        obtain ⟨a, vs, rfl, z1, z2, k1⟩ := I.top1.tuple I.sub
        cases q : r ds ρ with
        | none => rw [q] at h'; exact h'.elim
        | some ρ' =>
          refine ⟨a, vs, rfl, z1, by rw [k1.len, hlen ds ρ ρ' q], H0, F0, F, S, ρ, ds, I.pop, WRs.none ho k1, ?_⟩
          rw [q] at h' ⊢
          exact h'
      · rw [if_neg ho] at h'; exact h'.elim
    | _ => exact h.elim
def s_asg (g : SG) (f : SE) : SS := fun ρ => (f ρ).st fun d ρ1 => match g d ρ1 with
  | some ρ2 => .nx ρ2
  | none => .no
theorem x_asg {tg e : Expr} {f : SE} {g : SG} (he : QE X ca W e f) (hg : QG X tg g) (hs : swapsWithSole [tg] e pos.line X.env = pure false := by rfl) (hw : swappedStores [tg] e X.env = pure none := by rfl)
    (h1 : (assignEach [tg] X.env).map (·.2) = [assign tg X.env] := by rfl) : QS X ca W (.Assign [tg] e pos) (s_asg g f) := (ps_asg he hg hs hw h1).qimp fun D σ H ⟨H0, F0, F, S, ρ, I, h⟩ =>
  tE.st I h fun d ρ' v H' F' k s J => by
    refine ⟨H0, F0, F', S, ρ', d, J, ?_⟩
    cases e : g d ρ' with
    | none => rw [e] at k; exact k
    | some ρ2 => rw [e] at k; exact k
end
end OL

namespace OL
open PySem PySem.Spec L2
/-! ### what is walked -/
structure ItOk (K : PySem.W.Frag) (F1 : Hp) (J : It) (ds : List D) : Prop where
  go : ∀ F H i d, Same F1 F → Same F H → ds[i]? = some d → J.go i H
  yld : ∀ F H i d x H', Same F1 F → Same F H → ds[i]? = some d → J.yld i H x H' → ∃ F', Grows F H F' H' ∧ Rp K F' H' d x []
  stop : ∀ F H, Same F1 F → Same F H → J.stop ds.length H
def tI (K : PySem.W.Frag) (ca : Nat → Addr) (W : WX) (f : SEs) : TI := fun σ H R => ∃ H0 F0 F S ρ, SIf K H0 F0 F S ρ σ H ∧ match f ρ with
  | .ok ds ρ' => ∀ J H' F', Same H H' → Same F F' → SIf K H0 F0 F' S ρ' σ H' → ItOk K F' J ds → R J H'
  | .ex c ρ' => ∀ H' F', SIf K H0 F0 F' S ρ' σ H' → W (.ref (ca c)) none σ H'
  | .no => False
abbrev QI (X : Cx) (ca : Nat → Addr) (W : WX) (tg e : Expr) (f : SEs) : Prop := PI X tg e (tI X.K ca W f)
theorem _root_.L2.PI.qimp {X : Cx} {tg e : Expr} {t t' : TI} (h : PI X tg e t) (i : ∀ σ H R, t' σ H R → t σ H R) : PI X tg e t' := ⟨fun pins s σ H R I q => h.run pins s σ H R I (i σ H R q)⟩
theorem _root_.L2.PI.qor {X : Cx} {tg e : Expr} {t t' : TI} (h : PI X tg e t) (h' : PI X tg e t') : PI X tg e (fun σ H R => t σ H R ∨ t' σ H R) := ⟨fun pins s σ H R I q => by
  rcases q with q | q
  · exact h.run pins s σ H R I q
  · exact h'.run pins s σ H R I q⟩
abbrev GI (K : PySem.W.Frag) (ca : Nat → Addr) (W : WX) (H0 F0 : Hp) (S : Stk) (σ : St) (H F : Hp) (R : It → Hp → Prop) (r : RE (List D)) : Prop := match r with
  | .ok ds ρ' => ∀ J H' F', Same H H' → Same F F' → SIf K H0 F0 F' S ρ' σ H' → ItOk K F' J ds → R J H'
  | .ex c ρ' => ∀ H' F', SIf K H0 F0 F' S ρ' σ H' → W (.ref (ca c)) none σ H'
  | .no => False
/-- the signs of a text -/
def signs (x : Str) : List D := x.cps.toList.map fun c => .str ⟨#[c]⟩
/-- a list, a tuple, a text -/
def i_of (f : SE) : SEs := fun ρ => (f ρ).bind fun d ρ1 => match d with
  | .lst _ ds => .ok (D.frzs ds) ρ1
  | .tup ds => .ok (D.frzs ds) ρ1
  | .str x => .ok (signs x) ρ1
  | _ => .no
section
variable {K : PySem.W.Frag} {F1 : Hp}
theorem itOk_list {a : Addr} {vs : List V} {ds : List D} (s : SqL K F1 a vs) (r : Rps K F1 F1 ds vs []) : ItOk K F1 (Itl K a) ds where
  go := fun F H i d s1 s2 e => by
    obtain ⟨v, e1, _⟩ := WRs.get (WRs.of r) e
    exact ⟨vs, v, s2.seq (s1.seq s), e1⟩
  yld := fun F H i d x H' s1 s2 e y => by
    obtain ⟨rfl, y⟩ := y
    obtain ⟨v, e1, w⟩ := WRs.get (WRs.of (Rps.mono s1 ds vs [] (fun _ z => nomatch z) r : Rps K F H' ds vs [])) e
    have := y vs (s2.seq (s1.seq s))
    rw [e1] at this
    cases this
    refine ⟨F, Grows.rfl' s2, ?_⟩
    have all : ∀ {ds : List D} {vs : List V} {i : Nat} {d : D} {v : V}, Rps K F H' ds vs [] → ds[i]? = some d → vs[i]? = some v → Rp K F H' d v [] := fun {ds} => by
      induction ds with
      | nil => intro vs i d v _ e; simp at e
      | cons d0 ds ih =>
        intro vs i d v r e e'
        obtain ⟨v0, vr, f1, f2, rfl, ef, r1, r2⟩ := r
        obtain ⟨rfl, rfl⟩ : f1 = [] ∧ f2 = [] := by simpa using ef.symm
        cases i with
        | zero =>
          have h1 : d0 = d := by simpa using e
          have h2 : v0 = v := by simpa using e'
          subst h1 h2
          exact r1
        | succ i => exact ih r2 (by simpa using e) (by simpa using e')
    exact all (Rps.mono s1 ds vs [] (fun _ z => nomatch z) r) e e1
  stop := fun F H s1 s2 => ⟨vs, s2.seq (s1.seq s), by rw [Rps.len r]; exact Nat.le_refl _⟩
theorem itOk_tup {a : Addr} {vs : List V} {ds : List D} (s : SqT K F1 a vs) (r : Rps K F1 F1 ds vs []) : ItOk K F1 (Itt K a) ds where
  go := fun F H i d s1 s2 e => by
    obtain ⟨v, e1, _⟩ := WRs.get (WRs.of r) e
    exact ⟨vs, v, sqt_same s2 (sqt_same s1 s), e1⟩
  yld := fun F H i d x H' s1 s2 e y => by
    obtain ⟨rfl, y⟩ := y
    obtain ⟨v, e1, w⟩ := WRs.get (WRs.of (Rps.mono s1 ds vs [] (fun _ z => nomatch z) r : Rps K F H' ds vs [])) e
    have := y vs (sqt_same s2 (sqt_same s1 s))
    rw [e1] at this
    cases this
    refine ⟨F, Grows.rfl' s2, ?_⟩
    have all : ∀ {ds : List D} {vs : List V} {i : Nat} {d : D} {v : V}, Rps K F H' ds vs [] → ds[i]? = some d → vs[i]? = some v → Rp K F H' d v [] := fun {ds} => by
      induction ds with
      | nil => intro vs i d v _ e; simp at e
      | cons d0 ds ih =>
        intro vs i d v r e e'
        obtain ⟨v0, vr, f1, f2, rfl, ef, r1, r2⟩ := r
        obtain ⟨rfl, rfl⟩ : f1 = [] ∧ f2 = [] := by simpa using ef.symm
        cases i with
        | zero =>
          have h1 : d0 = d := by simpa using e
          have h2 : v0 = v := by simpa using e'
          subst h1 h2
          exact r1
        | succ i => exact ih r2 (by simpa using e) (by simpa using e')
    exact all (Rps.mono s1 ds vs [] (fun _ z => nomatch z) r) e e1
  stop := fun F H s1 s2 => ⟨vs, sqt_same s2 (sqt_same s1 s), by rw [Rps.len r]; exact Nat.le_refl _⟩
theorem itOk_str {x : Str} : ItOk K F1 (Its x) (signs x) where
  go := fun F H i d s1 s2 e => by
    have := lt_of_get e
    unfold signs at this
    rw [List.length_map, Array.length_toList] at this
    exact this
  yld := fun F H i d y H' s1 s2 e h => by
    obtain ⟨rfl, c, hc, rfl⟩ := h
    refine ⟨F, Grows.rfl' s2, ?_⟩
    unfold signs at e
    rw [List.getElem?_map, Array.getElem?_toList, hc] at e
    cases e
    exact rp_str _
  stop := fun F H s1 s2 => by
    show x.cps.size ≤ (signs x).length
    unfold signs
    rw [List.length_map, Array.length_toList]
    exact Nat.le_refl _
end
/-- what a frozen top tells -/
theorem SIf.frozenTop {K : PySem.W.Frag} {H0 F0 F H : Hp} {S : Stk} {ρ : Env} {σ : St} {d : D} {v : V} (I : SIf K H0 F0 F (([d], [v]) :: S) ρ σ H) : ∃ F', Same F F' ∧ SIf K H0 F0 F' S ρ σ H ∧ Rp K F' F' d.frz v [] := by
  obtain ⟨F1, s1, J⟩ := I.frzTop
  obtain ⟨f', g', ⟨f1, f2, e1, r0, r1⟩, _⟩ := id J.ex
  have r := Rps.of_one (show Rps K F1 H [d.frz] [v] f1 from r0)
  have n : d.frz.owns = false := by
    have key : (∀ d : D, d.frz.owns = false) := by
      intro d
      exact D.rec (motive_1 := fun d => d.frz.owns = false) (motive_2 := fun ds => D.ownss (D.frzs ds) = false) (motive_3 := fun kvs => D.ownsk (D.frzk kvs) = false) (motive_4 := fun p => p.2.frz.owns = false)
        rfl (fun _ => rfl) (fun _ => rfl) (fun _ => rfl) (fun ds ih => ih) (fun o ds ih => ih) (fun o kvs ih => ih) (fun _ => rfl) rfl
        (fun d ds h1 h2 => by show (d.frz.owns || D.ownss (D.frzs ds)) = false; rw [h1, h2]; rfl) rfl
        (fun p ps h1 h2 => by obtain ⟨k, d⟩ := p; show (d.frz.owns || D.ownsk (D.frzk ps)) = false; rw [h1, h2]; rfl) (fun k d h => h) d
    exact key d
  have z := Rp.none d.frz v f1 n r
  subst z
  exact ⟨F1, s1, J.pop, Rp.mono (Same.refl _) d.frz v [] (fun _ z => nomatch z) r⟩
section
variable {X : Cx} {ca : Nat → Addr} {W : WX} {pos : Pos} {tg : Expr}
theorem tE.it {H0 F0 F H : Hp} {S : Stk} {ρ : Env} {σ : St} {f : SE} {k : D → Env → RE (List D)} {Q : VK} {R : It → Hp → Prop} (I : SIf X.K H0 F0 F S ρ σ H) (h : GI X.K ca W H0 F0 S σ H F R ((f ρ).bind k))
    (hok : ∀ d ρ' v H' F', f ρ = .ok d ρ' → GI X.K ca W H0 F0 S σ H F R (k d ρ') → Same H H' → Same F F' → SIf X.K H0 F0 F' (([d], [v]) :: S) ρ' σ H' → Q v H') : tE X.K ca W f σ H Q := by
  refine tE.intro I ?_
  cases e : f ρ with
  | ok d ρ' => rw [e] at h; exact fun v H' F' s1 s2 J => hok d ρ' v H' F' e h s1 s2 J
  | ex c ρ' => rw [e] at h; exact h
  | no => rw [e] at h; exact h
theorem tO.it {H0 F0 F H : Hp} {S : Stk} {ρ : Env} {σ : St} {f : SE} {k : D → Env → RE (List D)} {Q : VK} {R : It → Hp → Prop} (I : SIf X.K H0 F0 F S ρ σ H) (h : GI X.K ca W H0 F0 S σ H F R ((f ρ).bind k))
    (hok : ∀ d ρ' v H' F', GI X.K ca W H0 F0 S σ H F R (k d ρ') → Same H H' → Same F F' → SIf X.K H0 F0 F' S ρ' σ H' → WR X.K F' H' d v → Q v H') : tO X.K ca W f σ H Q := by
  refine tO.intro I ?_
  cases e : f ρ with
  | ok d ρ' => rw [e] at h; exact fun v H' F' s1 s2 J w => hok d ρ' v H' F' h s1 s2 J w
  | ex c ρ' => rw [e] at h; exact h
  | no => rw [e] at h; exact h
theorem xi_of {e : Expr} {f : SE} (h : QE X ca W e f) : QI X ca W tg e (i_of f) := by
  refine ((pi_list h).qor ((pi_tup h).qor (pi_str h))).qimp fun σ H R ⟨H0, F0, F, S, ρ, I, g⟩ => ?_
  -- by what comes
  cases e : f ρ with
  | no =>
    have g' : GI X.K ca W H0 F0 S σ H F R ((f ρ).bind fun d ρ1 => match d with | .lst _ ds => .ok (D.frzs ds) ρ1 | .tup ds => .ok (D.frzs ds) ρ1 | .str x => .ok (signs x) ρ1 | _ => .no) := g
    rw [e] at g'
    exact g'.elim
  | ex c ρ' =>
    refine .inl (tE.it I g fun d ρ1 v H1 F1 e1 => ?_)
    rw [e] at e1
    cases e1
  | ok d ρ1 =>
    cases d with
    | lst o ds =>
      refine .inl (tE.it I g fun d ρ1 v H1 F1 e1 g1 s1 s2 J => ?_)
      rw [e] at e1
      cases e1
      obtain ⟨F2, s3, J2, r⟩ := J.frozenTop
      obtain ⟨a, vs, rfl, e2, e3, _⟩ := (show Rp X.K F2 F2 (.lst false (D.frzs ds)) v [] from r)
      refine ⟨a, rfl, ⟨vs, J2.sub.seq e2⟩, g1 _ H1 F2 s1 (s2.trans s3) J2 (itOk_list e2 e3)⟩
    | tup ds =>
      refine .inr (.inl (tE.it I g fun d ρ1 v H1 F1 e1 g1 s1 s2 J => ?_))
      rw [e] at e1
      cases e1
      obtain ⟨F2, s3, J2, r⟩ := J.frozenTop
      obtain ⟨a, vs, rfl, e2, e3⟩ := (show Rp X.K F2 F2 (.tup (D.frzs ds)) v [] from r)
      exact ⟨a, rfl, ⟨vs, sqt_same J2.sub e2.sq⟩, g1 _ H1 F2 s1 (s2.trans s3) J2 (itOk_tup e2.sq e3)⟩
    | str x =>
      refine .inr (.inr (tE.it I g fun d ρ1 v H1 F1 e1 g1 s1 s2 J => ?_))
      rw [e] at e1
      cases e1
      obtain ⟨f, r⟩ := J.top1
      obtain ⟨rfl, _⟩ := r
      exact ⟨x, rfl, g1 _ H1 F1 s1 s2 J.pop itOk_str⟩
    | _ =>
      have g' : GI X.K ca W H0 F0 S σ H F R ((f ρ).bind fun d ρ1 => match d with | .lst _ ds => .ok (D.frzs ds) ρ1 | .tup ds => .ok (D.frzs ds) ρ1 | .str x => .ok (signs x) ρ1 | _ => .no) := g
      rw [e] at g'
      exact g'.elim
/-! ### range, enumerate, zip -/
def rangeD (lo c : Int) (n : Nat) : List D := (List.range n).map fun i => .int (lo + (i : Nat) * c)
theorem rangeD_len (lo c : Int) (n : Nat) : (rangeD lo c n).length = n := by unfold rangeD; rw [List.length_map, List.length_range]
theorem rangeD_get {lo c : Int} {n i : Nat} {d : D} (h : (rangeD lo c n)[i]? = some d) : i < n ∧ d = .int (lo + (i : Nat) * c) := by
  unfold rangeD at h
  rw [List.getElem?_map] at h
  cases q : (List.range n)[i]? with
  | none => rw [q] at h; cases h
  | some j =>
    rw [q] at h
    obtain ⟨h1, h2⟩ := List.getElem?_eq_some_iff.mp q
    rw [List.length_range] at h1
    rw [List.getElem_range] at h2
    subst h2
    cases h
    exact ⟨h1, rfl⟩
theorem itOk_range {K : PySem.W.Frag} {F1 : Hp} (lo : Int) (n : Nat) : ItOk K F1 (Itr lo n) (rangeD lo 1 n) where
  go := fun F H i d s1 s2 e => (rangeD_get e).1
  yld := fun F H i d x H' s1 s2 e y => by
    obtain ⟨rfl, rfl⟩ := y
    obtain ⟨_, rfl⟩ := rangeD_get e
    refine ⟨F, Grows.rfl' s2, ?_⟩
    rw [Int.mul_one]
    exact rp_int _
  stop := fun F H s1 s2 => by
    show n ≤ (rangeD lo 1 n).length
    rw [rangeD_len]
    exact Nat.le_refl _
theorem itOk_rangeC {K : PySem.W.Frag} {F1 : Hp} (lo c : Int) (n : Nat) : ItOk K F1 (Itc lo c n) (rangeD lo c n) where
  go := fun F H i d s1 s2 e => (rangeD_get e).1
  yld := fun F H i d x H' s1 s2 e y => by
    obtain ⟨rfl, rfl⟩ := y
    obtain ⟨_, rfl⟩ := rangeD_get e
    exact ⟨F, Grows.rfl' s2, rp_int _⟩
  stop := fun F H s1 s2 => by
    show n ≤ (rangeD lo c n).length
    rw [rangeD_len]
    exact Nat.le_refl _
def small62 (i : Int) : Bool := decide (-(2 ^ 62) ≤ i) && decide (i < 2 ^ 62)
theorem small62_iff {i : Int} (h : small62 i = true) : -(2 ^ 62) ≤ i ∧ i < 2 ^ 62 := by
  unfold small62 at h
  rw [Bool.and_eq_true, decide_eq_true_eq, decide_eq_true_eq] at h
  exact h
def gRange1 : List D → Option (List D)
  | [.int j] => if small62 j = true then some (rangeD 0 1 j.toNat) else none
  | _ => none
def gRange2 : List D → Option (List D)
  | [.int i, .int j] => if small62 i = true ∧ small62 j = true then some (rangeD i 1 (j - i).toNat) else none
  | _ => none
/-- a rising range by more than one, a falling one by one -/
def gRange3 : List D → Option (List D)
  | [.int i, .int j, .int c] => if c = -1 then (if small62 i = true ∧ small62 j = true then some (rangeD i (-1) (i - j).toNat) else none) else
      if 0 < c ∧ c < 1000000 ∧ 0 ≤ i ∧ i ≤ j ∧ j < 1000000000 then some (rangeD i c ((j - i + c - 1) / c).toNat) else none
  | _ => none
def i_range (g : List D → Option (List D)) (f : SEs) : SEs := fun ρ => (f ρ).bind fun ds ρ1 => .of (g ds) ρ1
theorem tOs.it {H0 F0 F H : Hp} {S : Stk} {ρ : Env} {σ : St} {f : SEs} {k : List D → Env → RE (List D)} {Q : List V → Hp → Prop} {R : It → Hp → Prop} (I : SIf X.K H0 F0 F S ρ σ H) (h : GI X.K ca W H0 F0 S σ H F R ((f ρ).bind k))
    (hok : ∀ ds ρ' vs H' F', GI X.K ca W H0 F0 S σ H F R (k ds ρ') → Same H H' → Same F F' → SIf X.K H0 F0 F' S ρ' σ H' → WRs X.K F' H' ds vs → Q vs H') : tOs X.K ca W f σ H Q := by
  refine ⟨H0, F0, F, S, ρ, I, ?_⟩
  cases e : f ρ with
  | ok d ρ' => rw [e] at h; exact fun v H' F' s1 s2 J w => hok d ρ' v H' F' h s1 s2 J w
  | ex c ρ' => rw [e] at h; exact h
  | no => rw [e] at h; exact h
theorem xi_range1 {a : Expr} {f : SEs} {p : Pos} (hg : Gl X "range") (hm : X.mg "range" = none) (ha : QOs X ca W [a] f) (hs : starEach [a] X.env = [(false, eval a X.env)] := by rfl) : QI X ca W tg (.Call (.Name "range" p) [a] [] pos) (i_range gRange1 f) :=
  (pi_range1 hg hm ha hs).qimp fun σ H R ⟨H0, F0, F, S, ρ, I, h⟩ => tOs.it I h fun ds ρ' vs H' F' g s1 s2 J w => by
    cases q : gRange1 ds with
    | none => rw [q] at g; exact g.elim
    | some r =>
      rw [q] at g
      unfold gRange1 at q
      split at q
      · split at q
        · rename_i j hj
          cases q
          obtain ⟨v, rfl, w1⟩ := w.one
          cases w1.int
          obtain ⟨h1, h2⟩ := small62_iff hj
          exact ⟨j, rfl, h1, h2, g _ H' F' s1 s2 J (itOk_range 0 _)⟩
        · cases q
      · cases q
theorem xi_range2 {a b : Expr} {f : SEs} {p : Pos} (hg : Gl X "range") (hm : X.mg "range" = none) (ha : QOs X ca W [a, b] f) (hs : starEach [a, b] X.env = [(false, eval a X.env), (false, eval b X.env)] := by rfl) (hs2 : starEach [b] X.env = [(false, eval b X.env)] := by rfl) :
    QI X ca W tg (.Call (.Name "range" p) [a, b] [] pos) (i_range gRange2 f) :=
  (pi_range2 hg hm ha hs hs2).qimp fun σ H R ⟨H0, F0, F, S, ρ, I, h⟩ => tOs.it I h fun ds ρ' vs H' F' g s1 s2 J w => by
    cases q : gRange2 ds with
    | none => rw [q] at g; exact g.elim
    | some r =>
      rw [q] at g
      unfold gRange2 at q
      split at q
      · split at q
        · rename_i i j hj
          cases q
          obtain ⟨v, u, rfl, w1, w2⟩ := w.two
          cases w1.int
          cases w2.int
          obtain ⟨h1, h2⟩ := small62_iff hj.1
          obtain ⟨h3, h4⟩ := small62_iff hj.2
          exact ⟨i, j, rfl, ⟨h1, h2, h3, h4⟩, g _ H' F' s1 s2 J (itOk_range i _)⟩
        · cases q
      · cases q
theorem WRs.three {K : PySem.W.Frag} {F H : Hp} {d e f : D} {vs : List V} (w : WRs K F H [d, e, f] vs) : ∃ v u z, vs = [v, u, z] ∧ WR K F H d v ∧ WR K F H e u ∧ WR K F H f z := by
  obtain ⟨v, vr, rfl, w1, w2⟩ := w
  obtain ⟨u, z, rfl, w3, w4⟩ := w2.two
  exact ⟨v, u, z, rfl, w1, w3, w4⟩
theorem rgc_up {i j c : Int} (h : 0 < c ∧ c < 1000000 ∧ 0 ≤ i ∧ i ≤ j ∧ j < 1000000000) : RgC i j c ((j - i + c - 1) / c).toNat := by
  obtain ⟨h1, h2, h3, h4, h5⟩ := h
  have q0 : 0 ≤ (j - i + c - 1) / c := Int.ediv_nonneg (by omega) (by omega)
  have qc : (j - i + c - 1) / c * c ≤ j - i + c - 1 := Int.ediv_mul_le _ (by omega)
  have ql : (j - i + c - 1) / c ≤ j - i + c - 1 := by
    have : (j - i + c - 1) / c * 1 ≤ (j - i + c - 1) / c * c := Int.mul_le_mul_of_nonneg_left (by omega) q0
    omega
  have e : Builtin.Range.rangeSize i j c = (j - i + c - 1) / c := by
    unfold Builtin.Range.rangeSize
    by_cases e : i < j
    · simp only [show c > 0 from h1, if_true]
      first
        | (rw [if_pos e, show j - i + c - 1 = (j - i - 1) + 1 * c by omega, Int.add_mul_ediv_right _ _ (by omega)])
    · have : i = j := by omega
      subst this
      have z : (i - i + c - 1) / c = 0 := by
        rw [show i - i + c - 1 = c - 1 by omega]
        exact Int.ediv_eq_zero_of_lt (by omega) (by omega)
      rw [z]
      simp only [show c > 0 from h1, if_true]
      first
        | (rw [if_neg e])
        | (split <;> first | omega | rfl)
  refine ⟨by omega, by omega, ?_, by rw [e]; omega⟩
  unfold Builtin.Range.small
  rw [e]
  simp only [Builtin.Range.rangeFitsLong, Bool.and_eq_true, Bool.or_eq_true, decide_eq_true_eq, beq_iff_eq, show c > 0 from h1, if_true]
  refine ⟨?_, ?_⟩ <;> omega
theorem xi_range3 {a b c : Expr} {f : SEs} {p : Pos} (hg : Gl X "range") (hm : X.mg "range" = none) (ha : QOs X ca W [a, b, c] f)
    (hs : starEach [a, b, c] X.env = (false, eval a X.env) :: starEach [b, c] X.env := by rfl) (hpl : (backTo pos (starEach [b, c] X.env)).any (·.1) = false := by rfl) : QI X ca W tg (.Call (.Name "range" p) [a, b, c] [] pos) (i_range gRange3 f) :=
  (pi_range3 hg hm ha hs hpl).qimp fun σ H R ⟨H0, F0, F, S, ρ, I, h⟩ => tOs.it I h fun ds ρ' vs H' F' g s1 s2 J w => by
    cases q : gRange3 ds with
    | none => rw [q] at g; exact g.elim
    | some r =>
      rw [q] at g
      unfold gRange3 at q
      split at q
      · rename_i i j c
        obtain ⟨v, u, z, rfl, w1, w2, w3⟩ := w.three
        cases w1.int
        cases w2.int
        cases w3.int
        split at q
        · rename_i ec
          split at q
          · rename_i hj
            cases q
            obtain ⟨h1, h2⟩ := small62_iff hj.1
            obtain ⟨h3, h4⟩ := small62_iff hj.2
            exact ⟨i, j, c, _, rfl, by rw [ec]; exact RgC.neg h1 h2 h3 h4, by rw [ec]; exact g _ H' F' s1 s2 J (itOk_rangeC i (-1) _)⟩
          · cases q
        · split at q
          · rename_i hj
            cases q
            exact ⟨i, j, c, _, rfl, rgc_up hj, g _ H' F' s1 s2 J (itOk_rangeC i c _)⟩
          · cases q
      · cases q
end
end OL

namespace OL
open PySem PySem.Spec L2
/-! ### enumerate, zip over lists -/
def enumD : Nat → List D → List D
  | _, [] => []
  | i, d :: ds => .tup [.int (i : Nat), d] :: enumD (i + 1) ds
theorem enumD_get : ∀ {ds : List D} {k i : Nat} {x : D}, (enumD k ds)[i]? = some x → ∃ d, ds[i]? = some d ∧ x = .tup [.int ((k + i : Nat) : Int), d]
  | [], k, i, x, h => by simp [enumD] at h
  | d :: ds, k, 0, x, h => by
    have : D.tup [.int (k : Nat), d] = x := by simpa [enumD] using h
    exact ⟨d, rfl, this.symm⟩
  | d :: ds, k, i + 1, x, h => by
    obtain ⟨d', h1, h2⟩ := enumD_get (ds := ds) (k := k + 1) (i := i) (by simpa [enumD] using h)
    refine ⟨d', by simpa using h1, ?_⟩
    rw [h2, show k + 1 + i = k + (i + 1) by omega]
theorem enumD_len : ∀ (ds : List D) (k : Nat), (enumD k ds).length = ds.length
  | [], k => rfl
  | d :: ds, k => by show (enumD (k + 1) ds).length + 1 = _; rw [enumD_len ds (k + 1)]; rfl
def zipD : List D → List D → List D
  | x :: xs, y :: ys => .tup [x, y] :: zipD xs ys
  | _, _ => []
theorem zipD_get : ∀ {xs ys : List D} {i : Nat} {z : D}, (zipD xs ys)[i]? = some z → ∃ x y, xs[i]? = some x ∧ ys[i]? = some y ∧ z = .tup [x, y]
  | [], ys, i, z, h => by simp [zipD] at h
  | x :: xs, [], i, z, h => by simp [zipD] at h
  | x :: xs, y :: ys, 0, z, h => by
    have : D.tup [x, y] = z := by simpa [zipD] using h
    exact ⟨x, y, rfl, rfl, this.symm⟩
  | x :: xs, y :: ys, i + 1, z, h => by
    obtain ⟨x', y', h1, h2, h3⟩ := zipD_get (xs := xs) (ys := ys) (i := i) (by simpa [zipD] using h)
    exact ⟨x', y', by simpa using h1, by simpa using h2, h3⟩
theorem zipD_len : ∀ (xs ys : List D), (zipD xs ys).length = min xs.length ys.length
  | [], ys => by simp [zipD]
  | x :: xs, [] => by simp [zipD]
  | x :: xs, y :: ys => by
    show (zipD xs ys).length + 1 = _
    rw [zipD_len xs ys, List.length_cons, List.length_cons]
    omega
section
variable {K : PySem.W.Frag} {F1 : Hp}
theorem rps_get : ∀ {F H : Hp} {ds : List D} {vs : List V} {i : Nat} {d : D} {v : V}, Rps K F H ds vs [] → ds[i]? = some d → vs[i]? = some v → Rp K F H d v []
  | F, H, [], vs, i, d, v, _, e, _ => by simp at e
  | F, H, d0 :: ds, vs, i, d, v, r, e, e' => by
    obtain ⟨v0, vr, f1, f2, rfl, ef, r1, r2⟩ := r
    obtain ⟨rfl, rfl⟩ : f1 = [] ∧ f2 = [] := by simpa using ef.symm
    cases i with
    | zero =>
      have h1 : d0 = d := by simpa using e
      have h2 : v0 = v := by simpa using e'
      subst h1 h2
      exact r1
    | succ i => exact rps_get r2 (by simpa using e) (by simpa using e')
theorem pair_new {F H : Hp} {x y : D} {v u : V} {T : Addr} (s : Same F H) (n : H T = none) (hs : D.strish [x, y] = false) (r1 : Rp K F H x v []) (r2 : Rp K F H y u []) : ∃ F', Grows F H F' (upd H T (.tup [v, u])) ∧ Rp K F' (upd H T (.tup [v, u])) (.tup [x, y]) (.ref T) [] := by
  refine ⟨upd F T (.tup [v, u]), Grows.frozen s n, T, [v, u], rfl, ⟨.inl (.inl upd_same), fun _ => upd_same, fun z => by rw [hs] at z; cases z⟩, ?_⟩
  have G := Grows.frozen (o := .tup [v, u]) s n
  exact ⟨v, [u], [], [], rfl, rfl, Rp.mono G.ff _ _ _ (fun _ z => nomatch z) r1, u, [], [], [], rfl, rfl, Rp.mono G.ff _ _ _ (fun _ z => nomatch z) r2, rfl, rfl⟩
theorem itOk_enum {a : Addr} {vs : List V} {ds : List D} (s : SqL K F1 a vs) (r : Rps K F1 F1 ds vs []) : ItOk K F1 (Ite K a) (enumD 0 ds) where
  go := fun F H i d s1 s2 e => by
    obtain ⟨d', e1, _⟩ := enumD_get e
    obtain ⟨v, e2, _⟩ := WRs.get (WRs.of r) e1
    exact ⟨vs, v, s2.seq (s1.seq s), e2⟩
  yld := fun F H i d x H' s1 s2 e y => by
    obtain ⟨d', e1, rfl⟩ := enumD_get e
    obtain ⟨T, u, rfl, nT, rfl, hy⟩ := y
    have e2 := hy vs (s2.seq (s1.seq s))
    have r' := rps_get (Rps.mono s1 ds vs [] (fun _ z => nomatch z) r : Rps K F H ds vs []) e1 e2
    rw [Nat.zero_add]
    exact pair_new s2 nT rfl (rp_int _) r'
  stop := fun F H s1 s2 => ⟨vs, s2.seq (s1.seq s), by rw [enumD_len, Rps.len r]; exact Nat.le_refl _⟩
theorem itOk_zip {a b : Addr} {vs us : List V} {xs ys : List D} (s : SqL K F1 a vs) (r : Rps K F1 F1 xs vs []) (s' : SqL K F1 b us) (r' : Rps K F1 F1 ys us []) (hs : ∀ x ∈ xs, D.strish [x] = false) : ItOk K F1 (Itz K a b) (zipD xs ys) where
  go := fun F H i d s1 s2 e => by
    obtain ⟨x, y, e1, e2, _⟩ := zipD_get e
    obtain ⟨v, e3, _⟩ := WRs.get (WRs.of r) e1
    obtain ⟨u, e4, _⟩ := WRs.get (WRs.of r') e2
    exact ⟨vs, us, v, u, s2.seq (s1.seq s), s2.seq (s1.seq s'), e3, e4⟩
  yld := fun F H i d x H' s1 s2 e y => by
    obtain ⟨x, y', e1, e2, rfl⟩ := zipD_get e
    obtain ⟨T, v, u, rfl, nT, rfl, hv, hu⟩ := y
    have e3 := hv vs (s2.seq (s1.seq s))
    have e4 := hu us (s2.seq (s1.seq s'))
    refine pair_new s2 nT ?_ (rps_get (Rps.mono s1 xs vs [] (fun _ z => nomatch z) r : Rps K F H xs vs []) e1 e3) (rps_get (Rps.mono s1 ys us [] (fun _ z => nomatch z) r' : Rps K F H ys us []) e2 e4)
    have := hs x (List.mem_of_getElem? e1)
    cases x <;> first | rfl | exact this
  stop := fun F H s1 s2 => ⟨vs, us, s2.seq (s1.seq s), s2.seq (s1.seq s'), by rw [zipD_len, Rps.len r, Rps.len r']; omega⟩
end
section
variable {X : Cx} {ca : Nat → Addr} {W : WX} {pos : Pos} {tg : Expr}
def i_enum (f : SE) : SEs := fun ρ => (f ρ).bind fun d ρ1 => match d with
  | .lst _ ds => .ok (enumD 0 (D.frzs ds)) ρ1
  | _ => .no
theorem xi_enum {e : Expr} {f : SE} {p tpos : Pos} {elts : List Expr} {kk : Nat} (hg : Gl X "enumerate") (hm : X.mg "enumerate" = none) (ha : QE X ca W e f) (hs : starEach [e] X.env = [(false, eval e X.env)] := by rfl) :
    QI X ca W (.Tuple elts kk tpos) (.Call (.Name "enumerate" p) [e] [] pos) (i_enum f) :=
  (pi_enum hg hm (pa_cons ha pa_nil (by rw [hs]; rfl)) hs).qimp fun σ H R ⟨H0, F0, F, S, ρ, I, h⟩ => by
    refine tE.it I h fun d ρ1 v H1 F1 e1 g1 s1 s2 J => ?_
    cases d with
    | lst o ds =>
      obtain ⟨F2, s3, J2, r⟩ := J.frozenTop
      obtain ⟨a, vs, rfl, e2, e3, _⟩ := (show Rp X.K F2 F2 (.lst false (D.frzs ds)) v [] from r)
      exact ⟨a, vs, rfl, J2.sub.seq e2, g1 _ H1 F2 s1 (s2.trans s3) J2 (itOk_enum e2 e3)⟩
    | _ => exact g1.elim
def nostr : List D → Bool
  | [] => true
  | .str _ :: _ => false
  | _ :: ds => nostr ds
theorem nostr_of : ∀ {ds : List D}, nostr ds = true → ∀ x ∈ ds, D.strish [x] = false
  | [], _, x, hx => nomatch hx
  | d :: ds, h, x, hx => by
    have h' : nostr ds = true ∧ D.strish [d] = false := by cases d <;> first | exact ⟨h, rfl⟩ | cases h
    rcases List.mem_cons.mp hx with rfl | hx
    · exact h'.2
    · exact nostr_of h'.1 x hx
def i_zip (f g : SE) : SEs := fun ρ => (f ρ).bind fun x ρ1 => (g ρ1).bind fun y ρ2 => match x, y with
  | .lst _ xs, .lst _ ys => if nostr (D.frzs xs) = true then .ok (zipD (D.frzs xs) (D.frzs ys)) ρ2 else .no
  | _, _ => .no
theorem xi_zip {e e2 : Expr} {f g : SE} {p tpos : Pos} {elts : List Expr} {kk : Nat} (hg : Gl X "zip") (hm : X.mg "zip" = none) (ha : QE X ca W e f) (hb : QE X ca W e2 g)
    (hs : starEach [e, e2] X.env = (false, eval e X.env) :: starEach [e2] X.env := by rfl) (hs2 : starEach [e2] X.env = (false, eval e2 X.env) :: starEach [] X.env := by rfl) (hpl : (backTo pos (starEach [e2] X.env)).any (·.1) = false := by rfl) :
    QI X ca W (.Tuple elts kk tpos) (.Call (.Name "zip" p) [e, e2] [] pos) (i_zip f g) :=
  (pi_zip hg hm (pa_cons ha (pa_cons hb pa_nil hs2) hs) hs hpl).qimp fun σ H R ⟨H0, F0, F, S, ρ, I, h⟩ => by
    refine tE.it I h fun x ρ1 v H1 F1 e1 g1 s1 s2 J => ?_
    refine tE.intro J ?_
    cases e : g ρ1 with
    | no => rw [e] at g1; exact g1
    | ex c ρ2 => rw [e] at g1; exact fun H' F' J' => g1 H' F' J'.pop
    | ok y ρ2 =>
      rw [e] at g1
      intro u H2 F2 t1 t2 J2
      cases x with
      | lst o xs =>
        cases y with
        | lst o' ys =>
          have g2 : GI X.K ca W H0 F0 S σ H F R (if nostr (D.frzs xs) = true then .ok (zipD (D.frzs xs) (D.frzs ys)) ρ2 else .no) := g1
          by_cases hn : nostr (D.frzs xs) = true
          · rw [if_pos hn] at g2
            obtain ⟨F3, q3, J3, r3⟩ := J2.frozenTop
            obtain ⟨F4, q4, J4, r4⟩ := J3.frozenTop
            obtain ⟨a, vs, rfl, z2, z3, _⟩ := (show Rp X.K F4 F4 (.lst false (D.frzs xs)) v [] from r4)
            obtain ⟨b, us, rfl, z4, z5, _⟩ := (show Rp X.K F4 F4 (.lst false (D.frzs ys)) u [] from Rp.mono q4 _ _ _ (fun _ z => nomatch z) r3)
            exact ⟨a, b, vs, us, rfl, J4.sub.seq z2, J4.sub.seq z4, g2 _ H2 F4 (s1.trans t1) ((s2.trans t2).trans (q3.trans q4)) J4 (itOk_zip z2 z3 z4 z5 (nostr_of hn))⟩
          · rw [if_neg hn] at g2; exact g2.elim
        | _ => exact g1.elim
      | _ => exact g1.elim
/-! ### for -/
def forL (g : SG) (b : SS) : List D → Env → RO
  | [], ρ => .nx ρ
  | d :: ds, ρ => match g d ρ with
    | none => .no
    | some ρ1 => match b ρ1 with
      | .nx ρ2 => forL g b ds ρ2
      | .ct ρ2 => forL g b ds ρ2
      | .bk ρ2 => .nx ρ2
      | r => r
def s_for (f : SEs) (g : SG) (b : SS) : SS := fun ρ => (f ρ).st fun ds ρ1 => forL g b ds ρ1
theorem x_for {iter : Expr} {body : List Stmt} {f : SEs} {g : SG} {b : SS} (hp : PassesOwn (model X.prog X.w) X.A X.env X.xe) (hc : X.calm = true) (hi : QI X ca W tg iter f) (hg : QG X tg g) (hb : QSs X ca W body b)
    (hs : ∀ x, foldedSetIterable iter X.env x = pure x := by intro _; rfl) : QS X ca W (.For tg iter body [] pos) (s_for f g b) := (ps_for hp hc hi hg hb hs).qimp fun D σ H ⟨H0, F0, F, S, ρ, I, h⟩ => by
  refine ⟨H0, F0, F, S, ρ, I, ?_⟩
  cases e : f ρ with
  | no =>
    have h' : GS X.K ca W H0 F0 S F D ((f ρ).st fun ds ρ1 => forL g b ds ρ1) := h
    rw [e] at h'
    exact h'
  | ex c ρ1 =>
    have h' : GS X.K ca W H0 F0 S F D ((f ρ).st fun ds ρ1 => forL g b ds ρ1) := h
    rw [e] at h'
    exact fun H' F' J => h' σ H' F' J
  | ok ds ρ1 =>
    have h' : GS X.K ca W H0 F0 S F D ((f ρ).st fun ds ρ1 => forL g b ds ρ1) := h
    rw [e] at h'
    intro J H1 F1 s1 s2 I1 IT
    refine ⟨fun i m σ' H' => m = ds.length - i ∧ i ≤ ds.length ∧ ∃ F' ρ', Same F1 F' ∧ SIf X.K H0 F0 F' S ρ' σ' H' ∧ GS X.K ca W H0 F0 S F' D (forL g b (ds.drop i) ρ'),
      ⟨ds.length, by simp, Nat.zero_le _, F1, ρ1, Same.refl _, I1, GS.mono h' s2⟩, ?_⟩
    rintro i m σ' H' ⟨rfl, hi, F', ρ', sF, I', hG⟩
    by_cases hlt : i < ds.length
    · have hget : ds[i]? = some ds[i] := List.getElem?_eq_getElem hlt
      refine .inr ⟨IT.go F' H' i _ sF I'.sub hget, fun σ2 H2 => ∃ F2 ρ2, Same F1 F2 ∧ SIf X.K H0 F0 F2 S ρ2 σ2 H2 ∧ GS X.K ca W H0 F0 S F2 D (forL g b (ds.drop (i + 1)) ρ2), fun σ2 H2 hN => ⟨ds.length - (i + 1), by omega, rfl, hlt, hN⟩, fun x H2 y => ?_⟩
      obtain ⟨F2, G, r⟩ := IT.yld F' H' i _ x H2 sF I'.sub hget y
      have I2 := I'.ext G
      rw [List.drop_eq_getElem_cons hlt] at hG
      unfold forL at hG
      refine ⟨H0, F0, F2, S, ρ', ds[i], I2.imm r, ?_⟩
      cases eg : g ds[i] ρ' with
      | none => rw [eg] at hG; exact hG.elim
      | some ρ2 =>
        rw [eg] at hG
        intro σ3 H3 F3 s3 I3
        refine tS.intro I3 ?_
        cases eb : b ρ2 with
        | nx ρ3 =>
          have hG' : GS X.K ca W H0 F0 S F' D (match b ρ2 with | .nx ρ2 => forL g b (ds.drop (i + 1)) ρ2 | .ct ρ2 => forL g b (ds.drop (i + 1)) ρ2 | .bk ρ2 => .nx ρ2 | r => r) := hG
          rw [eb] at hG'
          exact fun σ4 H4 F4 s4 I4 => ⟨F4, ρ3, ((sF.trans G.ff).trans s3).trans s4, I4, GS.mono hG' ((G.ff.trans s3).trans s4)⟩
        | ct ρ3 =>
          have hG' : GS X.K ca W H0 F0 S F' D (match b ρ2 with | .nx ρ2 => forL g b (ds.drop (i + 1)) ρ2 | .ct ρ2 => forL g b (ds.drop (i + 1)) ρ2 | .bk ρ2 => .nx ρ2 | r => r) := hG
          rw [eb] at hG'
          exact fun σ4 H4 F4 s4 I4 => ⟨F4, ρ3, ((sF.trans G.ff).trans s3).trans s4, I4, GS.mono hG' ((G.ff.trans s3).trans s4)⟩
        | bk ρ3 =>
          have hG' : GS X.K ca W H0 F0 S F' D (match b ρ2 with | .nx ρ2 => forL g b (ds.drop (i + 1)) ρ2 | .ct ρ2 => forL g b (ds.drop (i + 1)) ρ2 | .bk ρ2 => .nx ρ2 | r => r) := hG
          rw [eb] at hG'
          exact fun σ4 H4 F4 s4 I4 => hG' σ4 H4 F4 ((G.ff.trans s3).trans s4) I4
        | rt d ρ3 =>
          have hG' : GS X.K ca W H0 F0 S F' D (match b ρ2 with | .nx ρ2 => forL g b (ds.drop (i + 1)) ρ2 | .ct ρ2 => forL g b (ds.drop (i + 1)) ρ2 | .bk ρ2 => .nx ρ2 | r => r) := hG
          rw [eb] at hG'
          exact fun v σ4 H4 F4 s4 I4 => hG' v σ4 H4 F4 ((G.ff.trans s3).trans s4) I4
        | ex c ρ3 =>
          have hG' : GS X.K ca W H0 F0 S F' D (match b ρ2 with | .nx ρ2 => forL g b (ds.drop (i + 1)) ρ2 | .ct ρ2 => forL g b (ds.drop (i + 1)) ρ2 | .bk ρ2 => .nx ρ2 | r => r) := hG
          rw [eb] at hG'
          exact hG'
        | no =>
          have hG' : GS X.K ca W H0 F0 S F' D (match b ρ2 with | .nx ρ2 => forL g b (ds.drop (i + 1)) ρ2 | .ct ρ2 => forL g b (ds.drop (i + 1)) ρ2 | .bk ρ2 => .nx ρ2 | r => r) := hG
          rw [eb] at hG'
          exact hG'
    · have e2 : i = ds.length := by omega
      subst e2
      rw [List.drop_length] at hG
      exact .inl ⟨IT.stop F' H' sF I'.sub, hG σ' H' F' (Same.refl _) I'⟩
/-! ### while -/
def whileL (t : ST) (b : SS) : Nat → Env → RO
  | 0, _ => .no
  | n + 1, ρ => match t ρ with
    | .ok true ρ1 => match b ρ1 with
      | .nx ρ2 => whileL t b n ρ2
      | .ct ρ2 => whileL t b n ρ2
      | .bk ρ2 => .nx ρ2
      | r => r
    | .ok false ρ1 => .nx ρ1
    | .ex c ρ1 => .ex c ρ1
    | .no => .no
def s_while (n : Nat) (t : ST) (b : SS) : SS := whileL t b n
theorem x_while {c : Expr} {body : List Stmt} {n : Nat} {t : ST} {b : SS} (hp : PassesOwn (model X.prog X.w) X.A X.env X.xe) (hc : QT X ca W c t) (hb : QSs X ca W body b) : QS X ca W (.While c body [] pos) (s_while n t b) := (ps_while hp hc hb).qimp fun D σ H ⟨H0, F0, F, S, ρ, I, h⟩ => by
  refine ⟨fun m σ' H' => ∃ F' ρ', SIf X.K H0 F0 F' S ρ' σ' H' ∧ GS X.K ca W H0 F0 S F' D (whileL t b m ρ'), ⟨n, F, ρ, I, h⟩, ?_⟩
  rintro m σ' H' ⟨F', ρ', I', hG⟩
  cases m with
  | zero => exact hG.elim
  | succ m =>
    unfold whileL at hG
    refine ⟨H0, F0, F', S, ρ', I', ?_⟩
    cases et : t ρ' with
    | no => rw [et] at hG; exact hG
    | ex c ρ1 => rw [et] at hG; exact fun H2 F2 J => hG σ' H2 F2 J
    | ok k ρ1 =>
      intro H2 F2 s1 s2 I2
      cases k with
      | false =>
        rw [et] at hG
        rw [if_neg Bool.false_ne_true]
        exact hG σ' H2 F2 s2 I2
      | true =>
        have hG' : GS X.K ca W H0 F0 S F' D (match b ρ1 with | .nx ρ2 => whileL t b m ρ2 | .ct ρ2 => whileL t b m ρ2 | .bk ρ2 => .nx ρ2 | r => r) := by
          rw [et] at hG
          exact hG
        rw [if_pos rfl]
        refine ⟨fun σ3 H3 => ∃ F3 ρ3, SIf X.K H0 F0 F3 S ρ3 σ3 H3 ∧ GS X.K ca W H0 F0 S F3 D (whileL t b m ρ3), fun σ3 H3 hN => ⟨m, Nat.lt_succ_self m, hN⟩, tS.intro I2 ?_⟩
        cases eb : b ρ1 with
        | nx ρ3 => rw [eb] at hG'; exact fun σ4 H4 F4 s4 I4 => ⟨F4, ρ3, I4, GS.mono hG' (s2.trans s4)⟩
        | ct ρ3 => rw [eb] at hG'; exact fun σ4 H4 F4 s4 I4 => ⟨F4, ρ3, I4, GS.mono hG' (s2.trans s4)⟩
        | bk ρ3 => rw [eb] at hG'; exact fun σ4 H4 F4 s4 I4 => hG' σ4 H4 F4 (s2.trans s4) I4
        | rt d ρ3 => rw [eb] at hG'; exact fun v σ4 H4 F4 s4 I4 => hG' v σ4 H4 F4 (s2.trans s4) I4
        | ex c ρ3 => rw [eb] at hG'; exact hG'
        | no => rw [eb] at hG'; exact hG'
end
end OL

namespace OL
open PySem PySem.Spec L2
theorem _root_.L2.PS.qor {X : Cx} {st : Stmt} {t t' : TS} (h : PS X st t) (h' : PS X st t') : PS X st (fun D σ H => t D σ H ∨ t' D σ H) := ⟨fun pins s σ H D I q => by
  rcases q with q | q
  · exact h.run pins s σ H D I q
  · exact h'.run pins s σ H D I q⟩
section
variable {K : PySem.W.Frag} {F H : Hp}
theorem Rps.snoc {d : D} {v : V} : ∀ {ds : List D} {vs : List V} {f g : List Addr}, Rps K F H ds vs g → Rps K F H [d] [v] f → ∃ g', Rps K F H (ds ++ [d]) (vs ++ [v]) g' ∧ ∀ b, g'.count b ≤ g.count b + f.count b
  | [], vs, f, g, h, r => by
    obtain ⟨rfl, rfl⟩ := h
    exact ⟨f, r, fun b => by simp⟩
  | d0 :: ds, vs, f, g, h, r => by
    obtain ⟨v0, vr, f1, f2, rfl, rfl, e3, e4⟩ := h
    obtain ⟨g', r', c⟩ := Rps.snoc e4 r
    refine ⟨f1 ++ g', ⟨v0, _, f1, g', rfl, rfl, e3, r'⟩, fun b => ?_⟩
    have := c b
    simp only [List.count_append]
    omega
theorem Rps.app : ∀ {ds es : List D} {vs ws : List V} {f g : List Addr}, Rps K F H ds vs g → Rps K F H es ws f → ∃ g', Rps K F H (ds ++ es) (vs ++ ws) g' ∧ ∀ b, g'.count b ≤ g.count b + f.count b
  | [], es, vs, ws, f, g, h, r => by
    obtain ⟨rfl, rfl⟩ := h
    exact ⟨f, r, fun b => by simp⟩
  | d0 :: ds, es, vs, ws, f, g, h, r => by
    obtain ⟨v0, vr, f1, f2, rfl, rfl, e3, e4⟩ := h
    obtain ⟨g', r', c⟩ := Rps.app e4 r
    refine ⟨f1 ++ g', ⟨v0, _, f1, g', rfl, rfl, e3, r'⟩, fun b => ?_⟩
    have := c b
    simp only [List.count_append]
    omega
theorem Rps.put {d : D} {v : V} : ∀ {ds : List D} {vs : List V} {f g : List Addr} (j : Nat), Rps K F H ds vs g → Rps K F H [d] [v] f → ∃ g', Rps K F H (ds.set j d) (vs.set j v) g' ∧ ∀ b, g'.count b ≤ g.count b + f.count b
  | [], vs, f, g, j, h, r => by
    obtain ⟨rfl, rfl⟩ := h
    exact ⟨[], ⟨rfl, rfl⟩, fun b => by simp⟩
  | d0 :: ds, vs, f, g, 0, h, r => by
    obtain ⟨v0, vr, f1, f2, rfl, rfl, e3, e4⟩ := h
    refine ⟨f ++ f2, ⟨v, vr, f, f2, rfl, rfl, Rps.of_one r, e4⟩, fun b => ?_⟩
    simp only [List.count_append]
    omega
  | d0 :: ds, vs, f, g, j + 1, h, r => by
    obtain ⟨v0, vr, f1, f2, rfl, rfl, e3, e4⟩ := h
    obtain ⟨g', r', c⟩ := Rps.put j e4 r
    refine ⟨f1 ++ g', ⟨v0, _, f1, g', rfl, rfl, e3, r'⟩, fun b => ?_⟩
    have := c b
    simp only [List.count_append]
    omega
theorem Rps.ins {d : D} {v : V} : ∀ {ds : List D} {vs : List V} {f g : List Addr} (j : Nat), Rps K F H ds vs g → Rps K F H [d] [v] f → ∃ g', Rps K F H (ds.take j ++ d :: ds.drop j) (vs.take j ++ v :: vs.drop j) g' ∧ ∀ b, g'.count b ≤ g.count b + f.count b
  | [], vs, f, g, j, h, r => by
    obtain ⟨rfl, rfl⟩ := h
    refine ⟨f, ?_, fun b => by simp⟩
    simpa using r
  | d0 :: ds, vs, f, g, 0, h, r => by
    refine ⟨f ++ g, ⟨v, vs, f, g, by simp, rfl, Rps.of_one r, by simpa using h⟩, fun b => ?_⟩
    simp only [List.count_append]
    omega
  | d0 :: ds, vs, f, g, j + 1, h, r => by
    obtain ⟨v0, vr, f1, f2, rfl, rfl, e3, e4⟩ := h
    obtain ⟨g', r', c⟩ := Rps.ins j e4 r
    refine ⟨f1 ++ g', ⟨v0, _, f1, g', by simp, rfl, e3, r'⟩, fun b => ?_⟩
    have := c b
    simp only [List.count_append]
    omega
/-- a dict with another value at a key -/
theorem Rpk.any {k : List Key} : ∀ {kvs : List (List Key × D)} {ws : List (List Key × V)} {f : List Addr}, Rpk K F H kvs ws f → (ws.any fun kv => decide (kv.1 = k)) = (kvs.any fun kv => decide (kv.1 = k))
  | [], ws, f, h => by rw [h.1]; rfl
  | (k', d) :: kvs, ws, f, h => by
    obtain ⟨v, wr, f1, f2, rfl, _, e3, e4⟩ := h
    rw [List.any_cons, List.any_cons, Rpk.any e4]
theorem Rpk.repl {k : List Key} {d : D} {v : V} (r : Rp K F H d v []) : ∀ {kvs : List (List Key × D)} {ws : List (List Key × V)} {f : List Addr}, Rpk K F H kvs ws f →
    ∃ f', Rpk K F H (kvs.map fun kv => if kv.1 = k then (kv.1, d) else kv) (ws.map fun kv => if kv.1 = k then (kv.1, v) else kv) f' ∧ ∀ b, f'.count b ≤ f.count b
  | [], ws, f, h => by
    obtain ⟨rfl, rfl⟩ := h
    exact ⟨[], ⟨rfl, rfl⟩, fun b => Nat.le_refl _⟩
  | (k', d') :: kvs, ws, f, h => by
    obtain ⟨v', wr, f1, f2, rfl, rfl, e3, e4⟩ := h
    obtain ⟨f', r', c⟩ := Rpk.repl r e4
    rw [List.map_cons, List.map_cons]
    by_cases e : k' = k
    · simp only [if_pos e]
      refine ⟨f', ⟨v, _, [], f', rfl, rfl, r, r'⟩, fun b => ?_⟩
      have := c b
      rw [List.count_append]
      omega
    · simp only [if_neg e]
      refine ⟨f1 ++ f', ⟨v', _, f1, f', rfl, rfl, e3, r'⟩, fun b => ?_⟩
      have := c b
      rw [List.count_append, List.count_append]
      omega
theorem Rpk.snoc {k : List Key} {d : D} {v : V} : ∀ {kvs : List (List Key × D)} {ws : List (List Key × V)} {f g : List Addr}, Rpk K F H kvs ws g → Rp K F H d v f → ∃ g', Rpk K F H (kvs ++ [(k, d)]) (ws ++ [(k, v)]) g' ∧ ∀ b, g'.count b ≤ g.count b + f.count b
  | [], ws, f, g, h, r => by
    obtain ⟨rfl, rfl⟩ := h
    exact ⟨f, ⟨v, [], f, [], rfl, by simp, r, rfl, rfl⟩, fun b => by simp⟩
  | (k0, d0) :: ds, vs, f, g, h, r => by
    obtain ⟨v0, vr, f1, f2, rfl, rfl, e3, e4⟩ := h
    obtain ⟨g', r', c⟩ := Rpk.snoc (k := k) e4 r
    refine ⟨f1 ++ g', ⟨v0, _, f1, g', rfl, rfl, e3, r'⟩, fun b => ?_⟩
    have := c b
    simp only [List.count_append]
    omega
theorem Rpk.drop {k : List Key} : ∀ {kvs : List (List Key × D)} {ws : List (List Key × V)} {f : List Addr}, Rpk K F H kvs ws f → ∃ f', Rpk K F H (dDrop kvs k) (dropK ws k) f' ∧ ∀ b, f'.count b ≤ f.count b
  | [], ws, f, h => by
    obtain ⟨rfl, rfl⟩ := h
    exact ⟨[], ⟨rfl, rfl⟩, fun b => Nat.le_refl _⟩
  | (k', d') :: kvs, ws, f, h => by
    obtain ⟨v', wr, f1, f2, rfl, rfl, e3, e4⟩ := h
    obtain ⟨f', r', c⟩ := Rpk.drop (k := k) e4
    by_cases e : k' = k
    · refine ⟨f', ?_, fun b => ?_⟩
      · have h1 : dDrop ((k', d') :: kvs) k = dDrop kvs k := by simp [dDrop, e]
        have h2 : dropK ((k', v') :: wr) k = dropK wr k := by simp [dropK, e]
        rw [h1, h2]
        exact r'
      · have := c b
        rw [List.count_append]
        omega
    · refine ⟨f1 ++ f', ?_, fun b => ?_⟩
      · have h1 : dDrop ((k', d') :: kvs) k = (k', d') :: dDrop kvs k := by simp [dDrop, e]
        have h2 : dropK ((k', v') :: wr) k = (k', v') :: dropK wr k := by simp [dropK, e]
        rw [h1, h2]
        exact ⟨v', _, f1, f', rfl, rfl, e3, r'⟩
      · have := c b
        rw [List.count_append, List.count_append]
        omega
end
section
variable {X : Cx} {ca : Nat → Addr} {W : WX} {pos : Pos}
/-- the own list in a slot -/
def ownL (ρ : Env) (i : Nat) : Option (List D) := match ρ[i]? with
  | some (some (.lst true ds)) => some ds
  | _ => none
def ownD (ρ : Env) (i : Nat) : Option (List (List Key × D)) := match ρ[i]? with
  | some (some (.dct true ds)) => some ds
  | _ => none
theorem ownL_eq {ρ : Env} {i : Nat} {ds : List D} (h : ownL ρ i = some ds) : ρ[i]? = some (some (.lst true ds)) := by
  unfold ownL at h
  split at h
  · cases h; assumption
  · cases h
theorem ownD_eq {ρ : Env} {i : Nat} {ds : List (List Key × D)} (h : ownD ρ i = some ds) : ρ[i]? = some (some (.dct true ds)) := by
  unfold ownD at h
  split at h
  · cases h; assumption
  · cases h
/-- x.append(e) -/
def s_append (i : Nat) (f : SE) : SS := fun ρ => match ownL ρ i with
  | none => .no
  | some _ => (f ρ).st fun d ρ1 => match ownL ρ1 i with
    | some ds => if ds.length < sizeLine then .nx (ρ1.set i (some (.lst true (ds ++ [d])))) else .no
    | none => .no
theorem x_append {o e : Expr} {i : Nat} {f : SE} {apos cpos : Pos} (ho : PE X o (tVar i)) (he : QE X ca W e f)
    (hbase : attributeBase o "append" X.env (eval o X.env) = eval o X.env := by rfl)
    (hfew : ((backTo cpos (starEach [e] X.env)).all (fun x => !x.1) && (backToKw cpos (keywordEach [] X.env)).all (fun x => x.1.isSome)
      && decide ([e].length + ([] : List Keyword).length + (if ([] : List Keyword).isEmpty then 0 else 1) < 30)) = true := by rfl)
    (hline : (apos.endLine == cpos.line) = true := by rfl) (hs : starEach [e] X.env = (false, eval e X.env) :: starEach [] X.env := by rfl) (hplain : (backTo cpos (starEach [] X.env)).any (·.1) = false := by rfl)
    (hsw : swapsWith (.Call (.Attribute o "append" apos) [e] [] cpos) none pos.line X.env = pure false := by rfl) :
    QS X ca W (.Expr (.Call (.Attribute o "append" apos) [e] [] cpos) pos) (s_append i f) :=
  (ps_expr (pe_bm PySem.F.plainAttrs_list PySem.F.slot_list_append PySem.F.type_list_append mt_append ho (pa_cons he pa_nil hs) hbase hfew hline hs hplain) hsw).qimp fun D σ H ⟨H0, F0, F, S, ρ, I, h⟩ => by
    have h' : GS X.K ca W H0 F0 S F D (s_append i f ρ) := h
    unfold s_append at h'
    cases q : ownL ρ i with
    | none => rw [q] at h'; exact h'.elim
    | some ds0 =>
      rw [q] at h'
      obtain ⟨v0, ev, w0⟩ := I.peek (ownL_eq q)
      obtain ⟨a0, vs0, rfl, sq0, _⟩ := w0.list I.sub
      refine ⟨.ref a0, ev, .inl ⟨rfl, vs0, sq0⟩, tE.st I h' fun d ρ1 v H1 F1 g s J => ?_⟩
      cases q1 : ownL ρ1 i with
      | none =>
        have g' : GS X.K ca W H0 F0 S F1 D (match ownL ρ1 i with | some ds => if ds.length < sizeLine then .nx (ρ1.set i (some (.lst true (ds ++ [d])))) else .no | none => .no) := g
        rw [q1] at g'
        exact g'.elim
      | some ds =>
        have g' : GS X.K ca W H0 F0 S F1 D (match ownL ρ1 i with | some ds => if ds.length < sizeLine then .nx (ρ1.set i (some (.lst true (ds ++ [d])))) else .no | none => .no) := g
        rw [q1] at g'
        have g2 : GS X.K ca W H0 F0 S F1 D (if ds.length < sizeLine then .nx (ρ1.set i (some (.lst true (ds ++ [d])))) else .no) := g'
        by_cases hl : ds.length < sizeLine
        · rw [if_pos hl] at g2
          obtain ⟨a, vs, e1, e2, ⟨gg, e3⟩, _, k⟩ := J.mutL (ownL_eq q1)
          rw [ev] at e1
          cases e1
          refine ⟨a0, vs, v, rfl, rfl, e2, by rw [Rps.len e3]; exact hl, ?_⟩
          exact g2 σ _ F1 (Same.refl _) (k (ds ++ [d]) (vs ++ [v]) fun F H f g r1 r2 => Rps.snoc r1 r2)
        · rw [if_neg hl] at g2; exact g2.elim
/-- x.extend(e), e ours -/
def extK (i : Nat) (ρ1 : Env) (d : D) : RO := match ownL ρ1 i with
  | none => .no
  | some ds => match d with
    | .lst true es => if ds.length + es.length ≤ sizeLine then .nx (ρ1.set i (some (.lst true (ds ++ es)))) else .no
    | _ => .no
def s_extend (i : Nat) (f : SE) : SS := fun ρ => match ownL ρ i with
  | none => .no
  | some _ => (f ρ).st fun d ρ1 => extK i ρ1 d
theorem extK_some {i : Nat} {ρ1 : Env} {ds : List D} (h : ownL ρ1 i = some ds) (d : D) : extK i ρ1 d = match d with
    | .lst true es => if ds.length + es.length ≤ sizeLine then .nx (ρ1.set i (some (.lst true (ds ++ es)))) else .no
    | _ => .no := by
  unfold extK
  rw [h]
theorem x_extend {o e : Expr} {i : Nat} {f : SE} {apos cpos : Pos} (ho : PE X o (tVar i)) (he : QE X ca W e f)
    (hbase : attributeBase o "extend" X.env (eval o X.env) = eval o X.env := by rfl)
    (hfew : ((backTo cpos (starEach [e] X.env)).all (fun x => !x.1) && (backToKw cpos (keywordEach [] X.env)).all (fun x => x.1.isSome)
      && decide ([e].length + ([] : List Keyword).length + (if ([] : List Keyword).isEmpty then 0 else 1) < 30)) = true := by rfl)
    (hline : (apos.endLine == cpos.line) = true := by rfl) (hs : starEach [e] X.env = (false, eval e X.env) :: starEach [] X.env := by rfl) (hplain : (backTo cpos (starEach [] X.env)).any (·.1) = false := by rfl)
    (hsw : swapsWith (.Call (.Attribute o "extend" apos) [e] [] cpos) none pos.line X.env = pure false := by rfl) :
    QS X ca W (.Expr (.Call (.Attribute o "extend" apos) [e] [] cpos) pos) (s_extend i f) :=
  (ps_expr (pe_bm PySem.F.plainAttrs_list PySem.F.slot_list_extend PySem.F.type_list_extend mt_extend ho (pa_cons he pa_nil hs) hbase hfew hline hs hplain) hsw).qimp fun D σ H ⟨H0, F0, F, S, ρ, I, h⟩ => by
    have h' : GS X.K ca W H0 F0 S F D (s_extend i f ρ) := h
    unfold s_extend at h'
    cases q : ownL ρ i with
    | none => rw [q] at h'; exact h'.elim
    | some ds0 =>
      rw [q] at h'
      obtain ⟨v0, ev, w0⟩ := I.peek (ownL_eq q)
      obtain ⟨a0, vs0, rfl, sq0, _⟩ := w0.list I.sub
      refine ⟨.ref a0, ev, .inl ⟨rfl, vs0, sq0⟩, tE.st I h' fun d ρ1 v H1 F1 g s J => ?_⟩
      cases q1 : ownL ρ1 i with
      | none =>
        unfold extK at g
        rw [q1] at g
        exact g.elim
      | some ds =>
        rw [extK_some q1] at g
        cases d with
        | lst o es =>
          cases o with
          | false => exact g.elim
          | true =>
            have g2 : GS X.K ca W H0 F0 S F1 D (if ds.length + es.length ≤ sizeLine then .nx (ρ1.set i (some (.lst true (ds ++ es)))) else .no) := g
            by_cases hl : ds.length + es.length ≤ sizeLine
            · rw [if_pos hl] at g2
              obtain ⟨f9, r9⟩ := J.top1
              obtain ⟨b, ws, g9, rfl, eb, rb, _⟩ := r9
              -- the list's items alone stand on top
              have J2 : SIf X.K H0 F0 F1 ((es, ws) :: S) ρ1 σ H1 := J.top J.self fun f r fo fc => by
                obtain ⟨a', vs', g', e1, e2, e3, e4⟩ := Rps.of_one r
                cases e1
                rw [eb] at e2
                cases e2
                refine ⟨g', e3, fun c => .inl ?_⟩
                rw [e4, List.count_cons]
                omega
              obtain ⟨a, vs, e1, e2, ⟨gg, e3⟩, ⟨gw, e5⟩, k⟩ := J2.mutL (ownL_eq q1)
              rw [ev] at e1
              cases e1
              refine ⟨a0, b, vs, ws, rfl, rfl, e2, eb, by rw [Rps.len e3, Rps.len e5]; exact hl, ?_⟩
              exact g2 σ _ F1 (Same.refl _) (k (ds ++ es) (vs ++ ws) fun F H f g r1 r2 => Rps.app r1 r2)
            · rw [if_neg hl] at g2; exact g2.elim
        | _ => exact g.elim
end
end OL

namespace OL
open PySem PySem.Spec L2
/-! ### a list that grows on the stack -/
section
variable {K : PySem.W.Frag} {H0 F0 F H : Hp} {S : Stk} {ρ : Env} {σ : List (Option V)}
theorem SIf.accTop {acc : List D} {y : D} {v : V} {p : Addr} (I : SIf K H0 F0 F (([y], [v]) :: ([.lst true acc], [.ref p]) :: S) ρ σ H) :
    ∃ vs, H p = some (.lst vs) ∧ vs.length = acc.length ∧ SIf K H0 F0 F (([.lst true (acc ++ [y])], [.ref p]) :: S) ρ σ (upd H p (.lst (vs ++ [v]))) := by
  obtain ⟨f, g, ⟨f1, f2, e1, r0, f3, f4, e2, r3, r4⟩, r2, c, o⟩ := I.ex
  subst e1 e2
  obtain ⟨p', vs, g1, e3, e4, e5, e6⟩ := Rps.of_one r3
  cases e3
  subst e6
  have cp := c p
  rw [List.count_append, List.count_append, List.count_cons_self] at cp
  have nz : ∀ {l : List Addr}, l.count p = 0 → p ∉ l := fun z => List.count_eq_zero.mp z
  have a1 : p ∉ f1 := nz (by omega)
  have a2 : p ∉ g1 := nz (by omega)
  have a3 : p ∉ f4 := nz (by omega)
  have a4 : p ∉ g := nz (by omega)
  obtain ⟨oF, oH⟩ := o p (.inl (List.mem_append_right _ (List.mem_append_left _ List.mem_cons_self)))
  have st : ∀ {l : List Addr}, p ∉ l → ∀ b ∈ l, ∀ x, H b = some x → upd H p (.lst (vs ++ [v])) b = some x := fun {l} n b hb x q => by
    rw [upd_ne (show b ≠ p from fun z => n (z ▸ hb))]
    exact q
  have keep : ∀ {G : Hp}, Same G H → G p = none → Same G (upd H p (.lst (vs ++ [v]))) := fun {G} s n b x q => by
    rw [upd_ne (show b ≠ p from fun z => by rw [z, n] at q; cases q)]
    exact s b x q
  obtain ⟨g', q1, q2⟩ := Rps.snoc (Rps.mono (Same.refl F) acc vs g1 (st a2) e5) (Rps.mono (Same.refl F) [y] [v] f1 (st a1) r0)
  refine ⟨vs, e4, Rps.len e5, keep I.sub oF, keep I.h0 oH, I.f0, I.grow, (p :: g') ++ f4, g, ⟨p :: g', f4, rfl, Rps.one ⟨p, _, g', rfl, upd_same, q1, rfl⟩, RS.mono (Same.refl _) S f4 (st a3) r4⟩, RL.mono (Same.refl _) ρ σ g (st a4) r2, fun b => ?_, fun b hb => ?_⟩
  · have h1 := c b
    have h2 := q2 b
    simp only [List.count_append, List.count_cons] at h1 ⊢
    omega
  · refine o b ?_
    rcases hb with h | h
    · refine .inl (count_mem ?_)
      have h1 := List.count_pos_iff.mpr h
      have h2 := q2 b
      simp only [List.count_append, List.count_cons] at h1 ⊢
      omega
    · exact .inr h
/-! ### own slots of a block -/
def wipeE (ρ : Env) : List Nat → Env
  | [] => ρ
  | v :: vs => (wipeE ρ vs).set v none
theorem wipeE_len (ρ : Env) : ∀ vs : List Nat, (wipeE ρ vs).length = ρ.length
  | [] => rfl
  | v :: vs => by unfold wipeE; rw [List.length_set, wipeE_len ρ vs]
theorem set_oob {α : Type} {l : List α} {i : Nat} {x : α} (h : ¬ i < l.length) : l.set i x = l := List.set_eq_of_length_le (Nat.le_of_not_lt h)
theorem SIf.len (I : SIf K H0 F0 F S ρ σ H) : σ.length = ρ.length := by
  obtain ⟨f, g, r1, r2, _⟩ := I.ex
  exact RL.len _ _ _ r2
theorem SIf.wiped (I : SIf K H0 F0 F S ρ σ H) : ∀ vs : List Nat, SIf K H0 F0 F S (wipeE ρ vs) (wipe σ vs) H
  | [] => I
  | v :: vs => by
    have J := I.wiped vs
    unfold wipeE wipe
    by_cases h : v < (wipeE ρ vs).length
    · exact J.forget h none
    · rw [set_oob h, set_oob (by rw [J.len]; exact h)]
      exact J
theorem wipe_get (σ : List (Option V)) (i : Nat) : ∀ vs : List Nat, (wipe σ vs)[i]? = if i ∈ vs ∧ i < σ.length then some none else σ[i]?
  | [] => by simp [wipe]
  | v :: vs => by
    unfold wipe
    rw [List.getElem?_set, wipe_length, wipe_get σ i vs]
    by_cases e : v = i
    · subst e
      by_cases h : v < σ.length
      · simp [h]
      · simp [h]
    · have : i ≠ v := fun z => e z.symm
      simp [e, this]
theorem wipeE_get (ρ : Env) (i : Nat) : ∀ vs : List Nat, (wipeE ρ vs)[i]? = if i ∈ vs ∧ i < ρ.length then some none else ρ[i]?
  | [] => by simp [wipeE]
  | v :: vs => by
    unfold wipeE
    rw [List.getElem?_set, wipeE_len, wipeE_get ρ i vs]
    by_cases e : v = i
    · subst e
      by_cases h : v < ρ.length
      · simp [h]
      · simp [h]
    · have : i ≠ v := fun z => e z.symm
      simp [e, this]
theorem wipe_idem (σ : List (Option V)) (vs : List Nat) : wipe (wipe σ vs) vs = wipe σ vs := List.ext_getElem? fun i => by
  rw [wipe_get, wipe_length, wipe_get]
  by_cases h : i ∈ vs ∧ i < σ.length
  · rw [if_pos h, if_pos h]
  · rw [if_neg h]
theorem wipeE_idem (ρ : Env) (vs : List Nat) : wipeE (wipeE ρ vs) vs = wipeE ρ vs := List.ext_getElem? fun i => by
  rw [wipeE_get, wipeE_len, wipeE_get]
  by_cases h : i ∈ vs ∧ i < ρ.length
  · rw [if_pos h, if_pos h]
  · rw [if_neg h]
theorem wipe_set {σ : List (Option V)} {i : Nat} {x : Option V} {vs : List Nat} (h : i ∈ vs) : wipe (σ.set i x) vs = wipe σ vs := List.ext_getElem? fun j => by
  rw [wipe_get, wipe_get, List.length_set]
  by_cases hj : j ∈ vs ∧ j < σ.length
  · rw [if_pos hj, if_pos hj]
  · rw [if_neg hj, if_neg hj, List.getElem?_set]
    by_cases e : i = j
    · subst e
      have : ¬ i < σ.length := fun z => hj ⟨h, z⟩
      rw [if_pos rfl, if_neg this, List.getElem?_eq_none (Nat.le_of_not_lt this)]
    · rw [if_neg e]
/-- a slot that the state does not know may hold anything -/
theorem RL.any : ∀ {ρ : Env} {σ σ' : List (Option V)} {g : List Addr}, RL K F H ρ σ g → σ'.length = σ.length → (∀ (i : Nat) (d : D), ρ[i]? = some (some d) → σ'[i]? = σ[i]?) → RL K F H ρ σ' g
  | [], σ, σ', g, h, e, _ => ⟨List.length_eq_zero_iff.mp (by rw [e, h.1]; rfl), h.2⟩
  | none :: ρ, σ, σ', g, h, e, k => by
    obtain ⟨x, σr, rfl, h2⟩ := h
    cases σ' with
    | nil => simp at e
    | cons y σ' => exact ⟨y, σ', rfl, RL.any h2 (by simpa using e) fun i d q => by simpa using k (i + 1) d (by simpa using q)⟩
  | some d :: ρ, σ, σ', g, h, e, k => by
    obtain ⟨v, σr, f1, f2, rfl, e2, r1, r2⟩ := h
    cases σ' with
    | nil => simp at e
    | cons y σ' =>
      have z := k 0 d rfl
      have z : y = some v := by simpa using z
      subst z
      exact ⟨v, σ', f1, f2, rfl, e2, r1, RL.any r2 (by simpa using e) fun i d q => by simpa using k (i + 1) d (by simpa using q)⟩
theorem SIf.back {vs : List Nat} (I : SIf K H0 F0 F S (wipeE ρ vs) (wipe σ vs) H) : SIf K H0 F0 F S (wipeE ρ vs) σ H := by
  have hl := I.len
  obtain ⟨f, g, r1, r2, c, o⟩ := I.ex
  refine ⟨I.sub, I.h0, I.f0, I.grow, f, g, r1, RL.any r2 (wipe_length σ vs).symm fun i d q => ?_, c, o⟩
  rw [wipeE_get] at q
  rw [wipe_get]
  by_cases h : i ∈ vs ∧ i < ρ.length
  · rw [if_pos h] at q; cases q
  · rw [wipe_length, wipeE_len] at hl
    rw [if_neg (by rw [hl]; exact h)]
end
/-! ### targets of a block: only its own slots are written -/
def tGv (K : PySem.W.Frag) (vs : List Nat) (g : SG) : TG := fun v σ H Q => ∃ H0 F0 F S ρ d, SIf K H0 F0 F (([d], [v]) :: S) ρ σ H ∧ match g d ρ with
  | some ρ' => ∀ σ' H' F', wipe σ' vs = wipe σ vs → Same H H' → Same F F' → SIf K H0 F0 F' S ρ' σ' H' → Q σ' H'
  | none => False
abbrev QGv (X : Cx) (vs : List Nat) (e : Expr) (g : SG) : Prop := PG X e (tGv X.K vs g)
def tGsv (K : PySem.W.Frag) (vs : List Nat) (r : List D → Env → Option Env) : TGs := fun us σ H Q => ∃ H0 F0 F S ρ ds, SIf K H0 F0 F S ρ σ H ∧ Rps K F H ds us [] ∧ match r ds ρ with
  | some ρ' => ∀ σ' H' F', wipe σ' vs = wipe σ vs → Same H H' → Same F F' → SIf K H0 F0 F' S ρ' σ' H' → Q σ' H'
  | none => False
abbrev QGsv (X : Cx) (vs : List Nat) (e : List Expr) (r : List D → Env → Option Env) : Prop := PGs X e (tGsv X.K vs r)
section
variable {X : Cx} {ca : Nat → Addr} {W : WX} {pos : Pos} {vs : List Nat}
theorem vg_name {i : Nat} {x : Str} (hN : X.N.Nodup) (hi : X.N[i]? = some x) (hx : Loc X.env.scope x) (hf : X.fn x = true ∨ X.env.scope.names.lookup x = some .local := by first | exact .inl rfl | exact .inr rfl | assumption) (hv : i ∈ vs := by decide) : QGv X vs (.Name x pos) (g_name i) :=
  (pg_name hN hi hx hf).qimp fun v σ H Q ⟨H0, F0, F, S, ρ, d, I, h⟩ => h _ H F (wipe_set hv) (Same.refl _) (Same.refl _) (I.write' i)
theorem vgs_nil : QGsv X vs [] g_nil := pgs_nil.qimp fun us σ H Q ⟨H0, F0, F, S, ρ, ds, I, r, h⟩ => by
  cases ds with
  | nil => exact ⟨r.1, h σ H F rfl (Same.refl _) (Same.refl _) I⟩
  | cons d ds => exact h.elim
theorem vgs_cons {i : Nat} {x : Str} {es : List Expr} {r : List D → Env → Option Env} (hN : X.N.Nodup) (hi : X.N[i]? = some x) (hx : Loc X.env.scope x) (h2 : QGsv X vs es r)
    (hs : (assignEach (.Name x pos :: es) X.env).map (·.2) = assign (.Name x pos) X.env :: (assignEach es X.env).map (·.2) := by rfl) (hf : X.fn x = true ∨ X.env.scope.names.lookup x = some .local := by first | exact .inl rfl | exact .inr rfl | assumption) (hv : i ∈ vs := by decide) : QGsv X vs (.Name x pos :: es) (g_cons (g_name i) r) :=
  (pgs_cons (pg_name hN hi hx hf) h2 hs).qimp fun us σ H Q ⟨H0, F0, F, S, ρ, ds, I, rr, h⟩ => by
    cases ds with
    | nil => exact h.elim
    | cons d ds =>
      obtain ⟨v, vr, f1, f2, rfl, e, r1, r2⟩ := rr
      obtain ⟨rfl, rfl⟩ : f1 = [] ∧ f2 = [] := by simpa using e.symm
      refine ⟨v, vr, rfl, H0, F0, F, S, _, ds, (I.imm r1).write' i, r2, ?_⟩
      have h' : match r ds (ρ.set i (some d)) with
        | some ρ' => ∀ σ' H' F', wipe σ' vs = wipe σ vs → Same H H' → Same F F' → SIf X.K H0 F0 F' S ρ' σ' H' → Q σ' H'
        | none => False := h
      cases q : r ds (ρ.set i (some d)) with
      | none => rw [q] at h'; exact h'.elim
      | some ρ' =>
        rw [q] at h'
        exact fun σ' H' F' e' => h' σ' H' F' (e'.trans (wipe_set hv))
theorem vg_tup {es : List Expr} {k : Nat} {r : List D → Env → Option Env} {n : Nat} (hc : X.calm = true) (h : QGsv X vs es r) (hlen : ∀ ds ρ ρ', r ds ρ = some ρ' → ds.length = n)
    (hn : (assignEach es X.env).length = n := by rfl) (hst : (assignEach es X.env).findIdx? (·.1) = none := by rfl) : QGv X vs (.Tuple es k pos) (g_tup r) :=
  (pg_tup hc h hn hst).qimp fun v σ H Q ⟨H0, F0, F, S, ρ, d, I, h⟩ => by
    cases d with
    | tup ds =>
      have h' : match (if D.ownss ds = false then r ds ρ else none) with
        | some ρ' => ∀ σ' H' F', wipe σ' vs = wipe σ vs → Same H H' → Same F F' → SIf X.K H0 F0 F' S ρ' σ' H' → Q σ' H'
        | none => False := h
      by_cases ho : D.ownss ds = false
      · rw [if_pos ho] at h'
        obtain ⟨a, us, rfl, z1, z2, k1⟩ := I.top1.tuple I.sub
        cases q : r ds ρ with
        | none => rw [q] at h'; exact h'.elim
        | some ρ' =>
          refine ⟨a, us, rfl, z1, by rw [k1.len, hlen ds ρ ρ' q], H0, F0, F, S, ρ, ds, I.pop, WRs.none ho k1, ?_⟩
          rw [q] at h' ⊢
          exact h'
      · rw [if_neg ho] at h'; exact h'.elim
    | _ => exact h.elim
end
/-! ### a list comprehension -/
def lcL (vs : List Nat) (g : SG) (t : ST) (fe : SE) : List D → List D → Env → RE D
  | [], acc, ρ => .ok (.lst true acc) ρ
  | d :: ds, acc, ρ => match g d ρ with
    | none => .no
    | some ρ1 => match t ρ1 with
      | .ok true ρ2 => match fe ρ2 with
        | .ok y ρ3 => if acc.length < sizeLine then lcL vs g t fe ds (acc ++ [y]) (wipeE ρ3 vs) else .no
        | _ => .no
      | .ok false ρ2 => lcL vs g t fe ds acc (wipeE ρ2 vs)
      | _ => .no
def e_lc (vs : List Nat) (f : SEs) (g : SG) (t : ST) (fe : SE) : SE := fun ρ => (f ρ).bind fun ds ρ1 => lcL vs g t fe ds [] (wipeE ρ1 vs)
def t_yes : ST := fun ρ => .ok true ρ
def WN : WX := fun _ _ _ _ => False
section
variable {X : Cx} {ca : Nat → Addr} {W : WX} {pos : Pos}
theorem xts_nil : PTs X [] (tT X.K ca W t_yes) := ⟨fun pins s σ H Q I ⟨H0, F0, F, S, ρ, J, h⟩ => pts_nil.run pins s σ H Q I (h H F (Same.refl _) (Same.refl _) J)⟩
theorem xts_one {c : Expr} {t : ST} (h : QT X ca W c t) : PTs X [c] (tT X.K ca W t) := pts_one h
theorem lcL_W {H0 F0 F1 H1 : Hp} {S : Stk} {σ : St} {vs : List Nat} {J : It} {ds : List D} {g : SG} {t : ST} {fe : SE} {ρ1 : Env} {Q : VK} (IT : ItOk X.K F1 J ds) (I1 : SIf X.K H0 F0 F1 S ρ1 σ H1)
    (h : match lcL vs g t fe ds [] (wipeE ρ1 vs) with
      | .ok d ρ' => ∀ v H' F', Same H1 H' → Same F1 F' → SIf X.K H0 F0 F' (([d], [v]) :: S) ρ' σ H' → Q v H'
      | _ => False) (p : Addr) (hD : H1 p = none) :
    ∃ W : Nat → Nat → Hp → Prop, (∃ m, W 0 m (upd H1 p (.lst []))) ∧ ∀ i m H, W i m H →
      (J.stop i H ∧ Q (.ref p) H) ∨ (J.go i H ∧ ∃ Nx : Hp → Prop, (∀ H', Nx H' → ∃ m', m' < m ∧ W (i + 1) m' H') ∧ ∀ x H', J.yld i H x H' → tGv X.K vs g x (wipe σ vs) H' fun σ2 H2 => wipe σ2 vs = wipe σ vs ∧ tT X.K ca WN t σ2 H2 fun b H3 =>
        if b = true then tE X.K ca WN fe σ2 H3 fun y H4 => ∃ acc, H4 p = some (.lst acc) ∧ acc.length < sizeLine ∧ Nx (upd H4 p (.lst (acc ++ [y]))) else Nx H3) := by
  refine ⟨fun i m H => m = ds.length - i ∧ i ≤ ds.length ∧ ∃ F' ρ' acc, Same F1 F' ∧ Same H1 H ∧ SIf X.K H0 F0 F' (([.lst true acc], [.ref p]) :: S) (wipeE ρ' vs) (wipe σ vs) H ∧ (match lcL vs g t fe (ds.drop i) acc (wipeE ρ' vs) with
      | .ok d ρ' => ∀ v H' F', Same H1 H' → Same F1 F' → SIf X.K H0 F0 F' (([d], [v]) :: S) ρ' σ H' → Q v H'
      | _ => False), ⟨ds.length, by simp, Nat.zero_le _, F1, ρ1, [], Same.refl _, (Grows.owned I1.sub hD).hh, ((I1.wiped vs).push0.lstTop hD), h⟩, ?_⟩
  rintro i m H ⟨rfl, hi, F', ρ', acc, sF, sH, I', hG⟩
  by_cases hlt : i < ds.length
  · have hget : ds[i]? = some ds[i] := List.getElem?_eq_getElem hlt
    refine .inr ⟨IT.go F' H i _ sF I'.sub hget, fun H' => ∃ F' ρ' acc, Same F1 F' ∧ Same H1 H' ∧ SIf X.K H0 F0 F' (([.lst true acc], [.ref p]) :: S) (wipeE ρ' vs) (wipe σ vs) H' ∧ (match lcL vs g t fe (ds.drop (i + 1)) acc (wipeE ρ' vs) with
      | .ok d ρ' => ∀ v H' F', Same H1 H' → Same F1 F' → SIf X.K H0 F0 F' (([d], [v]) :: S) ρ' σ H' → Q v H'
      | _ => False), fun H' hN => ⟨ds.length - (i + 1), by omega, rfl, hlt, hN⟩, fun x H2 y => ?_⟩
    obtain ⟨F2, G, r⟩ := IT.yld F' H i _ x H2 sF I'.sub hget y
    have I2 := I'.ext G
    rw [List.drop_eq_getElem_cons hlt] at hG
    unfold lcL at hG
    refine ⟨H0, F0, F2, _, _, ds[i], I2.imm r, ?_⟩
    cases eg : g ds[i] (wipeE ρ' vs) with
    | none => rw [eg] at hG; exact hG.elim
    | some ρ2 =>
      rw [eg] at hG
      intro σ3 H3 F3 w3 t3 s3 I3
      have w3' : wipe σ3 vs = wipe σ vs := w3.trans (wipe_idem σ vs)
      refine ⟨w3', H0, F0, F3, _, ρ2, I3, ?_⟩
      cases et : t ρ2 with
      | no => simp only [et] at hG
      | ex c ρ3 => simp only [et] at hG
      | ok b ρ3 =>
        intro H4 F4 s4 s4' I4
        cases b with
        | false =>
          rw [if_neg Bool.false_ne_true]
          simp only [et] at hG
          refine ⟨F4, ρ3, acc, ((sF.trans G.ff).trans s3).trans s4', ((sH.trans G.hh).trans t3).trans s4, ?_, hG⟩
          rw [← w3']
          exact I4.wiped vs
        | true =>
          rw [if_pos rfl]
          refine ⟨H0, F0, F4, _, ρ3, I4, ?_⟩
          cases ee : fe ρ3 with
          | no => simp only [et, ee] at hG
          | ex c ρ4 => simp only [et, ee] at hG
          | ok y ρ4 =>
            simp only [et, ee] at hG
            intro v H5 F5 s5 s5' I5
            obtain ⟨us, q1, q2, q3⟩ := I5.accTop
            by_cases hl : acc.length < sizeLine
            · rw [if_pos hl] at hG
              refine ⟨us, q1, by rw [q2]; exact hl, F5, ρ4, acc ++ [y], (((sF.trans G.ff).trans s3).trans s4').trans s5', ?_, ?_, hG⟩
              · have z : Same H1 H5 := (((sH.trans G.hh).trans t3).trans s4).trans s5
                intro b x q
                rw [upd_ne (ne_of_none q hD)]
                exact z b x q
              · rw [← w3']
                exact q3.wiped vs
            · rw [if_neg hl] at hG; exact hG.elim
  · have e2 : i = ds.length := by omega
    subst e2
    rw [List.drop_length] at hG
    exact .inl ⟨IT.stop F' H sF I'.sub, hG _ H F' sH sF I'.back⟩
theorem e_lc_to {vs : List Nat} {f : SEs} {g : SG} {t : ST} {fe : SE} {σ : St} {H : Hp} {Q : VK} (h : tE X.K ca W (e_lc vs f g t fe) σ H Q) : tLc (tI X.K ca W f) (tGv X.K vs g) (tT X.K ca WN t) (tE X.K ca WN fe) vs σ H Q := by
  obtain ⟨H0, F0, F, S, ρ, I, h⟩ := h
  refine ⟨H0, F0, F, S, ρ, I, ?_⟩
  unfold e_lc at h
  cases e : f ρ with
  | no => rw [e] at h; exact h
  | ex c ρ1 => rw [e] at h; exact h
  | ok ds ρ1 =>
    rw [e] at h
    intro J H1 F1 s1 s2 I1 IT p hD
    refine lcL_W IT I1 ?_ p hD
    have h' : match lcL vs g t fe ds [] (wipeE ρ1 vs) with
      | .ok d ρ' => ∀ v H' F', Same H H' → Same F F' → SIf X.K H0 F0 F' (([d], [v]) :: S) ρ' σ H' → Q v H'
      | .ex c ρ' => ∀ H' F', SIf X.K H0 F0 F' S ρ' σ H' → W (.ref (ca c)) none σ H'
      | .no => False := h
    have noex : ∀ (ds acc : List D) (ρ : Env) c ρ', lcL vs g t fe ds acc ρ ≠ .ex c ρ' := by
      intro ds
      induction ds with
      | nil => intro acc ρ c ρ' z; cases z
      | cons d ds ih =>
        intro acc ρ c ρ' z
        unfold lcL at z
        repeat' split at z
        all_goals first | exact ih _ _ _ _ z | cases z
    cases q : lcL vs g t fe ds [] (wipeE ρ1 vs) with
    | no => rw [q] at h'; exact h'.elim
    | ex c ρ' => exact absurd q (noex _ _ _ _ _)
    | ok d ρ' =>
      rw [q] at h'
      exact fun v H' F' t1 t2 K => h' v H' F' (s1.trans t1) (s2.trans t2) K
theorem x_lc {elt tg iter : Expr} {ifs : List Expr} {scope : Scope} {own : List (Str × Nat)} {f : SEs} {g : SG} {t : ST} {fe : SE} (hc : X.calm = true) (hN : X.N.Nodup) (hi : QI X ca W tg iter f) (ok : BlkOk X.N X.env.scope scope own)
    (hg : ∀ (s : Shared) (H : Hp) (C : Addr) (cl : List (Str × Addr)) (fp : List Addr), QGv (X.blk s H scope (compEnvC scope cl C X.env) fp) (own.map (·.2)) tg g) (ht : ∀ (s : Shared) (H : Hp) (C : Addr) (cl : List (Str × Addr)) (fp : List Addr), PTs (X.blk s H scope (compEnvC scope cl C X.env) fp) ifs (tT X.K ca WN t))
    (he : ∀ (s : Shared) (H : Hp) (C : Addr) (cl : List (Str × Addr)) (fp : List Addr), QE (X.blk s H scope (compEnvC scope cl C X.env) fp) ca WN elt fe) (hs : ∀ x, foldedSetIterable iter X.env x = pure x := by intro _; rfl) :
    QE X ca W (.ListComp elt [⟨tg, iter, ifs, 0⟩] scope pos) (e_lc (own.map (·.2)) f g t fe) :=
  (pe_lc hc hN hi ok hg ht he hs).qimp fun σ H Q h => e_lc_to h
/-- x = [..] on one line -/
theorem x_setLc {i : Nat} {y : Str} {py spos : Pos} {elt tg iter : Expr} {ifs : List Expr} {scope : Scope} {own : List (Str × Nat)} {f : SEs} {g : SG} {t : ST} {fe : SE} (hc : X.calm = true) (hN : X.N.Nodup) (hy : X.N[i]? = some y) (hyl : X.env.scope.names.lookup y = some .local)
    (hsw : swapsWith (.ListComp elt [⟨tg, iter, ifs, 0⟩] scope pos) (some (.Name y py)) spos.line X.env = pure true) (hi : QI X ca W tg iter f) (ok : BlkOk X.N X.env.scope scope own)
    (hg : ∀ (s : Shared) (H : Hp) (C : Addr) (cl : List (Str × Addr)) (fp : List Addr), QGv (X.blk s H scope (compEnvC scope cl C X.env) fp) (own.map (·.2)) tg g) (ht : ∀ (s : Shared) (H : Hp) (C : Addr) (cl : List (Str × Addr)) (fp : List Addr), PTs (X.blk s H scope (compEnvC scope cl C X.env) fp) ifs (tT X.K ca WN t))
    (he : ∀ (s : Shared) (H : Hp) (C : Addr) (cl : List (Str × Addr)) (fp : List Addr), QE (X.blk s H scope (compEnvC scope cl C X.env) fp) ca WN elt fe) (hs : ∀ x, foldedSetIterable iter X.env x = pure x := by intro _; rfl) :
    QS X ca W (.Assign [.Name y py] (.ListComp elt [⟨tg, iter, ifs, 0⟩] scope pos) spos) (s_asg (g_name i) (e_lc (own.map (·.2)) f g t fe)) :=
  (ps_setLc hc hN hy hyl hsw hi ok hg ht he hs).qimp fun D σ H ⟨H0, F0, F, S, ρ, I, h⟩ =>
    e_lc_to (tE.st I h fun d ρ' v H' F' k s J => k _ H' F' (Same.refl _) (J.write' i))
end
end OL

namespace OL
open PySem PySem.Spec PyProof.Rows L2
/-! ### raise -/
def s_raise (c : Nat) : SS := fun ρ => .ex c ρ
section
variable {X : Cx} {ca : Nat → Addr} {W : WX} {pos : Pos}
theorem x_raise {e : Expr} {c : Nat} (hc : X.calm = true) (tk : Takes X W) (he : PMk X e (fun _ H Q => Q (.ref (ca c)) none H)) : QS X ca W (.Raise (some e) none pos) (s_raise c) :=
  (ps_raise hc tk he).qimp fun D σ H ⟨H0, F0, F, S, ρ, I, h⟩ => h σ H F I
end
/-! ### an exception that was caught, tracked -/
section
variable {X : Cx} {pins : List (Addr × Obj)} {σ : L2.St} {H : Hp} {s s' : Shared}
theorem inv_track {a C : Addr} {oe : Obj} {vs : Array Value} (J : Inv X pins σ H s) (L : Inv X pins σ H s') (n : s.heap.get? a = none) (na : H a = none) (he : s'.heap.get? a = some oe) (hc : oe.cls = .ref C) (hd : oe.dict = none) (hf : oe.data = .fields vs) :
    Inv X pins σ (upd H a (excHO a C)) s' := by
  have off : ∀ {b : Addr} {o : Obj}, s.heap.get? b = some o → b ≠ a := fun {b o} e z => by rw [z, n] at e; cases e
  have offH : ∀ {b : Addr} {o : HO}, H b = some o → b ≠ a := fun {b o} e z => by rw [z, na] at e; cases e
  obtain ⟨m, ⟨ol, es, ep, hl, rl⟩, lk⟩ := id J.loc
  refine { ok := L.ok, os := L.os, bare := L.bare, loc := L.loc, cell := L.cell, len := L.len, base := ?_, free := ?_, freeC := ?_, pin := ?_, hok := ?_ }
  · refine ⟨L.base.keep, L.base.slot, fun b o e h1 h2 => ?_, L.base.there, fun b xs e => ?_, fun b o u e => ?_, fun b ps e => ?_⟩
    · obtain ⟨o', e'⟩ := J.base.there b o e h2
      rw [upd_ne (off e')]
      exact L.base.free b o e h1 h2
    · rw [upd_ne (offH (L.base.tups b xs e))]
      exact L.base.tups b xs e
    · rw [upd_ne (offH (L.base.frzs b o u e))]
      exact L.base.frzs b o u e
    · obtain ⟨more, q⟩ := L.base.tbls b ps e
      exact ⟨more, by rw [upd_ne (offH q)]; exact q⟩
  · rw [upd_ne (off hl)]
    exact L.free
  · intro x c e
    obtain ⟨v, oc, hv, _⟩ := J.cell x c e
    rw [upd_ne (off hv)]
    exact L.freeC x c e
  · intro p hp
    obtain ⟨q1, q2, q3⟩ := L.pin p hp
    refine ⟨q1, ?_, q3⟩
    rw [upd_ne (off (J.pin p hp).1)]
    exact q2
  · intro b o e
    by_cases hb : b = a
    · subst hb
      rw [upd_same] at e
      cases e
      exact ⟨⟨oe, vs, he, hc, hd, hf⟩, ⟨oe, he⟩, fun h1 h2 ⟨o1, v1, z1, z2⟩ k => ⟨o1, v1, k _ z1, z2⟩⟩
    · rw [upd_ne hb] at e
      exact (L.hok b o e).stay (fun _ _ _ q => q) (fun c q => by rw [upd_ne (offH q)]; exact q) (fun c xs q => by rw [upd_ne (offH q)]; exact q)
theorem inv_in {a : Addr} (I : Inv X pins σ H s) : Inv (X.suite a (X.pn ++ pins)) [] σ H s :=
  ⟨I.ok.suite a _, I.os, I.bare, I.base, I.loc, I.cell, I.free, I.freeC, fun p hp => I.pin p (by simpa using hp), I.hok, I.len⟩
theorem inv_out {a : Addr} (I : Inv (X.suite a (X.pn ++ pins)) [] σ H s) (ok : X.Ok) : Inv X pins σ H s :=
  { ok := ok, os := I.os, bare := I.bare, base := I.base, loc := I.loc, cell := I.cell, free := I.free, freeC := I.freeC, hok := I.hok, len := I.len, pin := fun p hp => I.pin p (List.mem_append_left _ hp) }
end
/-! ### an exception caught: what stands when the clauses are asked -/
structure Air (X : Cx) (pins : List (Addr × Obj)) (a : Addr) (C : Addr) (σ : L2.St) (H : Hp) (s : Shared) : Prop where
  ex : ∃ (B : Heap) (sI : Shared), Inv X pins σ H sI ∧ (∀ b o, sI.heap.get? b = some o → b ∉ frs X.stack → B.get? b = some o) ∧ sI.heap.UpToSlots s.heap ∧ HandSPX.FlyingZ B X.stack a (Zc (.ref C) none) s.heap ∧ s.os = sI.os ∧ AllBare s.gens
  na : H a = none
section
variable {X : Cx} {pins : List (Addr × Obj)} {σ : L2.St} {H : Hp} {s : Shared} {a C : Addr}
theorem Air.inv (A : Air X pins a C σ H s) : Inv X pins σ H s := by
  obtain ⟨B, sI, J, nb, up, fl, os, ag⟩ := A.ex
  exact J.landed nb fl.1 up os ag
theorem Air.obj (A : Air X pins a C σ H s) : ∃ oe vs, s.heap.get? a = some oe ∧ Zc (.ref C) none oe ∧ oe.data = .fields vs := by
  obtain ⟨B, sI, J, nb, up, fl, os, ag⟩ := A.ex
  exact fl.there
theorem Air.mv (A : Air X pins a C σ H s) {h' : Heap} (k : ∀ B, HandSPX.FlyingZ B X.stack a (Zc (.ref C) none) s.heap → HandSPX.FlyingZ B X.stack a (Zc (.ref C) none) h') (u : s.heap.UpToSlots h') : Air X pins a C σ H { s with heap := h' } := by
  obtain ⟨B, sI, J, nb, up, fl, os, ag⟩ := A.ex
  exact ⟨⟨B, sI, J, nb, up.trans u, k B fl, os, ag⟩, A.na⟩
theorem Air.tracked (A : Air X pins a C σ H s) : Inv X pins σ (upd H a (excHO a C)) s := by
  have L := A.inv
  obtain ⟨oe, vs, e, z, d⟩ := A.obj
  obtain ⟨B, sI, J, nb, up, fl, os, ag⟩ := A.ex
  refine inv_track J L ?_ A.na e z.1 z.2 d
  cases q : sI.heap.get? a with
  | none => rfl
  | some o =>
    by_cases hm : a ∈ frs X.stack
    · obtain ⟨_, o', e', hnf⟩ := fl.2.2.1.mem hm
      rw [e] at e'
      cases e'
      exact absurd d (hnf vs)
    · have z1 := nb a o q hm
      rw [fl.2.1] at z1
      cases z1
end
/-! ### the clauses of a try -/
def QHs (X : Cx) (ca : Nat → Addr) (W : WX) (hs : List ExceptHandler) (k : Nat → SS) : Prop := ∀ (pins : List (Addr × Obj)) (a : Addr) (c : Nat) (σ : L2.St) (H : Hp) (s : Shared) (D : Ends), Air X pins a (ca c) σ H s → tS X.K ca W (k c) D σ H → wpAny (model X.prog X.w) X.A (handleBy (.ref a) X.env hs) (SP X pins D) X.xe s
def k_nil : Nat → SS := fun c ρ => .ex c ρ
/-- behind the suite the name is gone -/
def unI (i : Nat) : RO → RO
  | .nx ρ => .nx (ρ.set i none)
  | .bk ρ => .bk (ρ.set i none)
  | .ct ρ => .ct (ρ.set i none)
  | .rt d ρ => .rt d ρ
  | _ => .no
def k_cons (m : Nat → Option Bool) (h k : Nat → SS) : Nat → SS := fun c ρ => match m c with
  | some true => h c ρ
  | some false => k c ρ
  | none => .no
def k_as (ca : Nat → Addr) (i : Nat) (su : SS) : Nat → SS := fun c ρ => unI i (su (ρ.set i (some (.exn (ca c)))))
def unX : RO → RO
  | .ex _ _ => .no
  | r => r
def k_only (su : SS) : Nat → SS := fun _ ρ => unX (su ρ)
section
variable {X : Cx} {ca : Nat → Addr} {W : WX} {pos : Pos}
theorem xh_nil (hs : X.stack = X.env :: X.outer) (hf : X.env.frame = some X.env.locals) (tk : Takes X W) : QHs X ca W [] k_nil := by
  rintro pins a c σ H s D ⟨⟨B, sI, J, nb, up, fl, os, ag⟩, na⟩ ⟨H0, F0, F, S, ρ, I, h⟩
  have h' : ∀ σ' H' F', SIf X.K H0 F0 F' S ρ σ' H' → W (.ref (ca c)) none σ' H' := h
  refine wpAny_handleBy_nil ?_
  obtain ⟨k1, k2, k3, oe, vs, T, oT, ts', he, hz, hd, h1, hr⟩ := id fl
  have go : wpAny (model X.prog X.w) X.A (setFlight (.ref a) X.env.frame) (fun _ s4 => wpAny (model X.prog X.w) X.A (throw (.ref a) : Sem Flow) (SP X pins D) X.xe s4) X.xe s := by
    rw [hf]
    exact HandSPX.setFlight_upZ fl fun h4 hh4 up4 => wpAny_throw (tk _ _ ⟨a, B, sI, pins, σ, H, _, _, rfl, J, nb, up.trans up4, .inr (.inr hh4), na, os, ag, h' σ H F I⟩)
  unfold PySem.passOn
  refine wpAny_bind (wpAny_field he hd h1 ?_)
  have nt : ¬ ((Value.ref T == Value.none) = true) := by simp
  rw [if_neg nt]
  first
    | exact wpAny_bind (wpAny_pure (wpAny_bind go))
    | exact wpAny_bind go
/-- the clause's test -/
theorem clause_test {x : Str} {np pos' : Pos} {cv : Value} {b : Bool} {pins : List (Addr × Obj)} {a C : Addr} {σ : L2.St} {H : Hp} {s : Shared} {R : Result → Shared → Prop} (A : Air X pins a C σ H s) (hc : Names X x cv) (hm : PySem.W.exmOne X.K (.ref C) cv = some b)
    (h : R (.ok (if b then .brk else .next)) s) : codeAny (model X.prog X.w) (X.A.mark (some (.ref a))) (.handlers (.ref a) [.ExceptHandler (some (.Name x np)) none [] pos'] X.env) R s := by
  obtain ⟨oe, vs, e, z, d⟩ := A.obj
  have LT : PySem.W.Looks (model X.prog X.w) s.heap (typeOf (.ref a)) (.ref C) := fun A Q E s' k q => wpAny_typeOf_ref (k _ _ e) (by rw [z.1]; exact q)
  have LM := PySem.W.exm_one (M := model X.prog X.w) A.inv.kIn LT hm
  have IS := inv_in (a := a) A.inv
  refine codeAny_handlers_test ?_
  obtain ⟨hg, hdb, hv | ⟨hn, hv, hnn⟩⟩ := hc
  · exact ld_glob IS hg hv (LM.here h) hdb
  · exact ld_blt IS hg hn hv (LM.here h) hnn hdb
theorem xh_only {x : Str} {np pos' : Pos} {cv : Value} {b₀ : Stmt} {suite : List Stmt} {hs' : List ExceptHandler} {m : Nat → Option Bool} {su : SS} {k : Nat → SS} (hs : X.stack = X.env :: X.outer) (hc : Names X x cv) (hm : ∀ c b, m c = some b → PySem.W.exmOne X.K (.ref (ca c)) cv = some b)
    (hsu : ∀ (a : Addr) (pn : List (Addr × Obj)), QSs (X.suite a pn) ca WN (b₀ :: suite) su) (hr : QHs X ca W hs' k) : QHs X ca W (.ExceptHandler (some (.Name x np)) none (b₀ :: suite) pos' :: hs') (k_cons m (k_only su) k) := by
  intro pins a c σ H s D A h
  have ok := A.inv.ok
  obtain ⟨H0, F0, F, S, ρ, I, h⟩ := h
  have h0 : GS X.K ca W H0 F0 S F D (k_cons m (k_only su) k c ρ) := h
  unfold k_cons at h0
  cases q : m c with
  | none => rw [q] at h0; exact h0.elim
  | some b =>
    rw [q] at h0
    refine wpAny_handleBy_cons (clause_test A hc (hm c b q) ?_) (by intro z; cases z)
    cases b with
    | false => exact hr pins a c σ H s D A ⟨H0, F0, F, S, ρ, I, h0⟩
    | true =>
      refine codeAny_handlers_suite ?_
      obtain ⟨B, sI, J, nb, up, fl, os, ag⟩ := id A.ex
      refine HandSPX.lands_againZ fl fun h4 fl4 up4 => ?_
      have A4 : Air X pins a (ca c) σ H { s with heap := h4 } := ⟨⟨B, sI, J, nb, up.trans up4, fl4, os, ag⟩, A.na⟩
      have S4 := inv_in (a := a) A4.tracked
      have I4 : SIf X.K H0 F0 (upd F a (excHO a (ca c))) S ρ σ (upd H a (excHO a (ca c))) := I.ext (Grows.frozen I.sub A.na)
      refine wpAny_mono ((hsu a (X.pn ++ pins)).run [] _ σ _ D S4 ⟨H0, F0, _, S, ρ, I4, ?_⟩) (fun f s6 hsp => ?_) (fun _ _ z => False.elim z)
      · have h1 : GS X.K ca W H0 F0 S F D (unX (su ρ)) := h0
        have sF : Same F (upd F a (excHO a (ca c))) := (Grows.frozen I.sub A.na).ff
        cases es : su ρ with
        | no => rw [es] at h1; exact h1.elim
        | ex c' ρ' => rw [es] at h1; exact h1.elim
        | nx ρ' => rw [es] at h1; exact fun σ' H' F' s1 K => h1 σ' H' F' (sF.trans s1) K
        | bk ρ' => rw [es] at h1; exact fun σ' H' F' s1 K => h1 σ' H' F' (sF.trans s1) K
        | ct ρ' => rw [es] at h1; exact fun σ' H' F' s1 K => h1 σ' H' F' (sF.trans s1) K
        | rt d ρ' => rw [es] at h1; exact fun v σ' H' F' s1 K => h1 v σ' H' F' (sF.trans s1) K
      · cases f with
        | next => obtain ⟨σ6, H6, S6, q6⟩ := hsp; exact ⟨σ6, H6, inv_out S6 ok, q6⟩
        | brk => obtain ⟨σ6, H6, S6, q6⟩ := hsp; exact ⟨σ6, H6, inv_out S6 ok, q6⟩
        | cont => obtain ⟨σ6, H6, S6, q6⟩ := hsp; exact ⟨σ6, H6, inv_out S6 ok, q6⟩
        | ret u => obtain ⟨v6, σ6, H6, S6, r6, q6⟩ := hsp; exact ⟨v6, σ6, H6, inv_out S6 ok, r6, q6⟩
theorem SIf.forget' {K : PySem.W.Frag} {H0 F0 F H : Hp} {S : Stk} {ρ : Env} {σ : List (Option V)} (I : SIf K H0 F0 F S ρ σ H) (i : Nat) (x : Option V) : SIf K H0 F0 F S (ρ.set i none) (σ.set i x) H := by
  by_cases h : i < ρ.length
  · exact I.forget h x
  · rw [set_oob h, set_oob (by rw [I.len]; exact h)]
    exact I
theorem xh_as {x n : Str} {i : Nat} {np pos' : Pos} {cv : Value} {b₀ : Stmt} {suite : List Stmt} {hs' : List ExceptHandler} {m : Nat → Option Bool} {su : SS} {k : Nat → SS} (hs : X.stack = X.env :: X.outer) (hN : X.N.Nodup) (hi : X.N[i]? = some n) (hln : X.env.kindOf n = some .local) (hc : Names X x cv)
    (hm : ∀ c b, m c = some b → PySem.W.exmOne X.K (.ref (ca c)) cv = some b)
    (hsu : ∀ (a : Addr) (pn : List (Addr × Obj)), QSs (X.suite a pn) ca WN (b₀ :: suite) su) (hr : QHs X ca W hs' k) : QHs X ca W (.ExceptHandler (some (.Name x np)) (some n) (b₀ :: suite) pos' :: hs') (k_cons m (k_as ca i su) k) := by
  intro pins a c σ H s D A h
  have ok := A.inv.ok
  obtain ⟨H0, F0, F, S, ρ, I, h⟩ := h
  have h0 : GS X.K ca W H0 F0 S F D (k_cons m (k_as ca i su) k c ρ) := h
  unfold k_cons at h0
  cases q : m c with
  | none => rw [q] at h0; exact h0.elim
  | some b =>
    rw [q] at h0
    refine wpAny_handleBy_cons (clause_test A hc (hm c b q) ?_) (by intro z; cases z)
    cases b with
    | false => exact hr pins a c σ H s D A ⟨H0, F0, F, S, ρ, I, h0⟩
    | true =>
      refine codeAny_handlers_suite_as ?_
      obtain ⟨B, sI, J, nb, up, fl, os, ag⟩ := id A.ex
      refine HandSPX.lands_againZ fl fun h4 fl4 up4 => ?_
      have A4 : Air X pins a (ca c) σ H { s with heap := h4 } := ⟨⟨B, sI, J, nb, up.trans up4, fl4, os, ag⟩, A.na⟩
      have S4 := inv_in (a := a) A4.tracked
      have I4 : SIf X.K H0 F0 (upd F a (excHO a (ca c))) S ρ σ (upd H a (excHO a (ca c))) := I.ext (Grows.frozen I.sub A.na)
      have sF : Same F (upd F a (excHO a (ca c))) := (Grows.frozen I.sub A.na).ff
      refine store_ok (X := X.suite a (X.pn ++ pins)) (v := .ref a) S4 hN hi (.inl hln) rfl (fun s5 S5 => ?_) (.inr hln)
      refine wpAny_mono ((hsu a (X.pn ++ pins)).run [] s5 _ _ { nx := fun σ' H' => D.nx (σ'.set i none) H', rt := D.rt, bk := fun σ' H' => D.bk (σ'.set i none) H', ct := fun σ' H' => D.ct (σ'.set i none) H' } S5 ⟨H0, F0, _, S, _, (I4.imm (d := .exn (ca c)) (v := .ref a) ⟨a, rfl, upd_same, rfl⟩).write' i, ?_⟩) (fun f s6 hsp => ?_) (fun _ _ z => False.elim z)
      · have h1 : GS X.K ca W H0 F0 S F D (unI i (su (ρ.set i (some (.exn (ca c)))))) := h0
        cases es : su (ρ.set i (some (.exn (ca c)))) with
        | no => rw [es] at h1; exact h1.elim
        | ex c' ρ' => rw [es] at h1; exact h1.elim
        | nx ρ' => rw [es] at h1; exact fun σ' H' F' s1 K => h1 _ H' F' (sF.trans s1) (K.forget' i none)
        | bk ρ' => rw [es] at h1; exact fun σ' H' F' s1 K => h1 _ H' F' (sF.trans s1) (K.forget' i none)
        | ct ρ' => rw [es] at h1; exact fun σ' H' F' s1 K => h1 _ H' F' (sF.trans s1) (K.forget' i none)
        | rt d ρ' => rw [es] at h1; exact fun v σ' H' F' s1 K => h1 v σ' H' F' (sF.trans s1) K
      · cases f with
        | next =>
          obtain ⟨σ6, H6, S6, q6⟩ := hsp
          exact gone_ok (inv_out S6 ok) hN hi hln fun s7 J7 => ⟨_, _, J7, q6⟩
        | brk =>
          obtain ⟨σ6, H6, S6, q6⟩ := hsp
          exact gone_ok (inv_out S6 ok) hN hi hln fun s7 J7 => ⟨_, _, J7, q6⟩
        | cont =>
          obtain ⟨σ6, H6, S6, q6⟩ := hsp
          exact gone_ok (inv_out S6 ok) hN hi hln fun s7 J7 => ⟨_, _, J7, q6⟩
        | ret u =>
          obtain ⟨v6, σ6, H6, S6, r6, q6⟩ := hsp
          exact gone_ok (inv_out S6 ok) hN hi hln fun s7 J7 => ⟨_, _, _, J7, r6, q6⟩
/-! ### try .. except -/
def s_try (b : SS) (k : Nat → SS) : SS := fun ρ => match b ρ with
  | .ex c ρ' => k c ρ'
  | r => r
theorem SIf.rebase {K : PySem.W.Frag} {H0 F0 F H : Hp} {S : Stk} {ρ : Env} {σ : List (Option V)} (I : SIf K H0 F0 F S ρ σ H) : SIf K H0 F F S ρ σ H :=
  ⟨I.sub, I.h0, Same.refl _, fun _ _ _ _ => rfl, I.ex⟩
theorem SIf.unbase {K : PySem.W.Frag} {H0 F0 F F' H H' : Hp} {S S' : Stk} {ρ ρ' : Env} {σ σ' : List (Option V)} (I : SIf K H0 F0 F S ρ σ H) (J : SIf K H0 F F' S' ρ' σ' H') : SIf K H0 F0 F' S' ρ' σ' H' :=
  ⟨J.sub, J.h0, I.f0.trans J.f0, fun a o e m => (J.grow a o e m).trans (I.grow a o e m), J.ex⟩
theorem x_try {body : List Stmt} {h₀ : ExceptHandler} {hl : List ExceptHandler} {b : SS} {k : Nat → SS} (hs : X.stack = X.env :: X.outer) (hf : X.env.frame = some X.env.locals)
    (hb : ∀ (W : WX) (pn : List (Addr × Obj)) (xe : Value → Shared → Prop), Takes (X.tr pn xe) W → PassesOwn (model X.prog X.w) X.A X.env xe → QSs (X.tr pn xe) ca W body b)
    (hk : QHs X ca W (h₀ :: hl) k) : QS X ca W (.Try body (h₀ :: hl) [] [] pos) (s_try b k) := by
  refine ⟨fun pins s σ H D I ⟨H0, F0, F, S, ρ, J, h⟩ => ?_⟩
  have ok := I.ok
  have hfr : X.A.frames = some (X.env :: X.outer) := by rw [ok.frames, hs]
  have h0 : GS X.K ca W H0 F0 S F D (s_try b k ρ) := h
  unfold s_try at h0
  refine wpAny_Try_except ?_
  refine wpAny_mono ((hb (fun cls d σ H => ∃ c, cls = .ref (ca c) ∧ d = none ∧ tS X.K ca W (k c) D σ H) (X.pn ++ pins) (fun e s₁ => wpAny (model X.prog X.w) X.A (noteFrame e X.env) (fun _ s₂ =>
    wpAny (model X.prog X.w) X.A (setFlight e none) (fun _ s₃ => wpAny (model X.prog X.w) X.A (handleBy e X.env (h₀ :: hl)) (SP X pins D) X.xe s₃) X.xe s₂) X.xe s₁) (fun u s' xx => ?_) PassesOwn.looking).run [] s σ H D (I.toTry _)
    ⟨H0, F, F, S, ρ, J.rebase, ?_⟩) (fun f s1 hsp => ?_) (fun _ _ he => he)
  · obtain ⟨a, B, sI, pins', σ', H', cls, d, rfl, J', nb, up, sky, na, os, ag, c, rfl, rfl, hw⟩ := xx
    have JI : Inv X pins σ' H' sI := J'.ofTry ok
    show wpAny (model X.prog X.w) X.A (noteFrame (.ref a) X.env) _ _ _
    refine Sky.land Zc.steady hfr hf (by rw [← hs]; exact sky) fun h3 fl3 up3 => ?_
    exact hk pins a c σ' H' { s' with heap := h3 } D ⟨⟨B, sI, JI, nb, up.trans up3, by rw [hs]; exact fl3, os, ag⟩, na⟩ hw
  · cases es : b ρ with
    | no => rw [es] at h0; exact h0
    | nx ρ' => rw [es] at h0; exact fun σ' H' F' s1 K => h0 σ' H' F' s1 (J.unbase K)
    | bk ρ' => rw [es] at h0; exact fun σ' H' F' s1 K => h0 σ' H' F' s1 (J.unbase K)
    | ct ρ' => rw [es] at h0; exact fun σ' H' F' s1 K => h0 σ' H' F' s1 (J.unbase K)
    | rt d ρ' => rw [es] at h0; exact fun v σ' H' F' s1 K => h0 v σ' H' F' s1 (J.unbase K)
    | ex c ρ' =>
      rw [es] at h0
      exact fun σ' H' F' K => ⟨c, rfl, rfl, H0, F0, F', S, ρ', J.unbase K, GS.mono h0 K.f0⟩
  · cases f with
    | next =>
      obtain ⟨σ', H', J', q⟩ := hsp
      exact wpAny_execs_nil ⟨σ', H', J'.ofTry ok, q⟩
    | brk => obtain ⟨σ', H', J', q⟩ := hsp; exact ⟨σ', H', J'.ofTry ok, q⟩
    | cont => obtain ⟨σ', H', J', q⟩ := hsp; exact ⟨σ', H', J'.ofTry ok, q⟩
    | ret u => obtain ⟨v, σ', H', J', r, q⟩ := hsp; exact ⟨v, σ', H', J'.ofTry ok, r, q⟩
end
end OL

namespace OL
open PySem PySem.Spec PyProof.Rows L2
/-! ### isinstance against an own class -/
open Classical in
noncomputable def gIsC (K : PySem.W.Frag) (C : Addr) : D → Option D
  | .exn E => if ExcC K E then (PySem.W.kitOne K (.ref E) (.ref C)).map D.bl else none
  | d => (PySem.W.kitOne K (.type d.ty) (.ref C)).map D.bl
noncomputable def e_isc (K : PySem.W.Frag) (C : Addr) (fa : SE) : SE := fun ρ => (fa ρ).bind fun x ρ1 => .of (gIsC K C x) ρ1
def rIsC (K : PySem.W.Frag) : List V → Hp → VK → Prop := fun xs H Q => ∃ (x : V) (C : Addr) (b : Bool), xs = [x, .ref C] ∧ Q (.bl b) H ∧
  ((∃ t, TyX K H x t ∧ PySem.W.kitOne K t (.ref C) = some b) ∨ ∃ a E, x = .ref a ∧ H a = some (excHO a E) ∧ ExcC K E ∧ PySem.W.kitOne K (.ref E) (.ref C) = some b)
theorem call_isC {X : Cx} : CallR X (.builtin "isinstance") (rIsC X.K) := by
  intro pins s σ H xs us Q I r h
  obtain ⟨x, C, b, rfl, q, ⟨t, ty, e⟩ | ⟨a, E, rfl, ha, hE, e⟩⟩ := h
  · exact call_isi pins s σ H _ us Q I r ⟨x, .ref C, t, .ref C, b, rfl, .own C, ty, e, q⟩
  · obtain ⟨u1, u2, rfl, r1, r2⟩ := vals2 r
    cases (show u1 = Value.ref a from r1)
    cases (show u2 = Value.ref C from r2)
    obtain ⟨⟨oe, vs, z1, z2, z3, z4⟩, _⟩ := (show ObjOk X.prog X.w H s.heap a (excHO a E) from I.hok a _ ha)
    have J : PySem.W.InstAt s.heap a oe E none := by
      obtain ⟨oc, od, oda, osl⟩ := oe
      dsimp only at z2 z3 z4
      subst z2 z3 z4
      exact ⟨z1, rfl, rfl, trivial⟩
    exact PySem.W.kia_one (PySem.W.handS_kitx_exc hE.hg hE.hk hE.hs hE.hd hE.ha hE.hn hE.ht hE.hm) I.kIn J e (fun z => nomatch z) fun tk => ⟨.bl b, H, I.tok tk, rfl, q⟩
section
variable {X : Cx} {ca : Nat → Addr} {W : WX} {pos : Pos}
open Classical in
theorem x_isc {x y : Str} {C : Addr} {p p2 : Pos} {e : Expr} {f : SE} (hg : Gl X x) (hm : X.mg x = none) (hv : bootBuiltins x = some (.builtin "isinstance")) (hg2 : Gl X y) (hm2 : X.mg y = some (.ref C)) (ha : QO X ca W e f)
    (hn : x ≠ "__name__" := by decide) (hdb : (x == ("__debug__" : Str)) = false := by decide) (hdb2 : (y == ("__debug__" : Str)) = false := by decide)
    (hs1 : starEach [e, .Name y p2] X.env = (false, eval e X.env) :: starEach [.Name y p2] X.env := by rfl) (hs2 : starEach [.Name y p2] X.env = (false, eval (.Name y p2) X.env) :: starEach [] X.env := by rfl)
    (hpl : (backTo pos (starEach [.Name y p2] X.env)).any (·.1) = false := by rfl) :
    QE X ca W (.Call (.Name x p) [e, .Name y p2] [] pos) (e_isc X.K C f) := by
  refine (pe_callB call_isC hg hm hv (pa_cons ha (pa_cons (pe_glob (v := .ref C) hg2 hm2 rfl hdb2) pa_nil hs2) hs1) hn hdb hs1 hpl).qimp fun σ H Q ⟨H0, F0, F, S, ρ, I, h⟩ => ?_
  refine tO.go (G := GE X.K ca W H0 F0 S σ H F Q) I h (fun c ρ' z => z) (fun z => z) fun d ρ1 v H1 F1 h1 s1 s2 I1 w1 => ?_
  obtain ⟨r, e, a⟩ := ge_of (F2 := F1) (H2 := H1) h1 s1 s2 I1
  have other : d.isExn = false → (PySem.W.kitOne X.K (.type d.ty) (.ref C)).map D.bl = some r → rIsC X.K [v, .ref C] H1 Q := fun hx e => by
    cases q : PySem.W.kitOne X.K (.type d.ty) (.ref C) with
    | none => rw [q] at e; cases e
    | some b =>
      rw [q] at e
      cases e
      exact ⟨v, C, b, rfl, a.imm I1.sub (rp_bl _), .inl ⟨_, tyx_of I1.sub w1 hx, q⟩⟩
  cases d with
  | exn E =>
    have e : (if ExcC X.K E then Option.map D.bl (PySem.W.kitOne X.K (.ref E) (.ref C)) else none) = some r := by
      unfold gIsC at e
      exact e
    by_cases hE : ExcC X.K E
    · rw [if_pos hE] at e
      cases q : PySem.W.kitOne X.K (.ref E) (.ref C) with
      | none => rw [q] at e; cases e
      | some b =>
        rw [q] at e
        cases e
        obtain ⟨fw, b0, rfl, hb, _⟩ := w1
        exact ⟨_, C, b, rfl, a.imm I1.sub (rp_bl _), .inr ⟨b0, E, rfl, I1.sub _ _ hb, hE, q⟩⟩
    · rw [if_neg hE] at e; cases e
  | _ => exact other rfl e
/-! ### the place of a text in a tuple of texts -/
def idxS : List Str → Str → Option Nat
  | [], _ => none
  | y :: ys, z => if y = z then some 0 else (idxS ys z).map (· + 1)
theorem idxS_at : ∀ {ys : List Str} {z : Str} {j : Nat}, idxS ys z = some j → ys[j]? = some z ∧ ∀ m, m < j → ys[m]? ≠ some z
  | [], z, j, h => nomatch h
  | y :: ys, z, j, h => by
    unfold idxS at h
    by_cases e : y = z
    · rw [if_pos e] at h
      cases h
      exact ⟨by rw [e]; rfl, fun m hm => absurd hm (Nat.not_lt_zero m)⟩
    · rw [if_neg e] at h
      cases q : idxS ys z with
      | none => rw [q] at h; cases h
      | some k =>
        rw [q] at h
        cases h
        obtain ⟨h1, h2⟩ := idxS_at q
        refine ⟨h1, fun m hm => ?_⟩
        cases m with
        | zero => exact fun w => e (Option.some.inj w)
        | succ m => exact h2 m (Nat.lt_of_succ_lt_succ hm)
def gTidx : D → D → Option D
  | .tup ds, .str z => match D.strs ds with
    | some ys => (idxS ys z).map fun j => .int (j : Nat)
    | none => none
  | _, _ => none
def isST : D → Bool
  | .tup ds => D.strish ds
  | _ => false
def e_tidx (fa fb : SE) : SE := fun ρ => (fa ρ).bind fun x ρ1 => if isST x = true then (fb ρ1).bind fun y ρ2 => .of (gTidx x y) ρ2 else .no
/-- a method of a tracked tuple that bears no dict -/
def tTM (K : PySem.W.Frag) (r : V → List V → Hp → VK → Prop) (to : TE) (t : TA) : TE := fun σ H Q => to σ H fun x H1 => (∃ a vs, x = .ref a ∧ SqT K H1 a vs ∧ TupD K H1 a) ∧ t σ H1 fun xs H2 => r x xs H2 Q
theorem pe_tm {o e : Expr} {es : List Expr} {to : TE} {t : TA} {name : Str} {apos cpos : Pos} {id : String} {r : V → List V → Hp → VK → Prop} (slot : Slot "tuple" name id) (hty : typeOf (.builtin id) = pure (.type "method_descriptor")) (hm : MtR X id r) (ho : PE X o to) (ha : PA X (e :: es) t)
    (hbase : attributeBase o name X.env (eval o X.env) = eval o X.env := by rfl)
    (hfew : ((backTo cpos (starEach (e :: es) X.env)).all (fun x => !x.1) && (backToKw cpos (keywordEach [] X.env)).all (fun x => x.1.isSome) && decide ((e :: es).length + ([] : List Keyword).length + (if ([] : List Keyword).isEmpty then 0 else 1) < 30)) = true := by rfl)
    (hline : (apos.endLine == cpos.line) = true := by rfl) (hs : starEach (e :: es) X.env = (false, eval e X.env) :: starEach es X.env := by rfl) (hplain : (backTo cpos (starEach es X.env)).any (·.1) = false := by rfl) :
    PE X (.Call (.Attribute o name apos) (e :: es) [] cpos) (tTM X.K r to t) := by
  refine ⟨fun pins s σ H Q I h => wpAny_Call_method_late hbase hfew hline rfl (thn (ho.run pins s σ H _ I h) ?_)⟩
  rintro v s1 ⟨x, H1, I1, r1, ⟨a, vs, rfl, hq, hd⟩, q1⟩
  cases r1
  obtain ⟨its, _, ⟨oa, ho1, hc1, _⟩, _⟩ := I1.tuple hq
  have bare : oa.dict = none := by
    rcases hd with ⟨o, u, e1, e2⟩ | ⟨o, e1, e2⟩
    · obtain ⟨z, _⟩ := (show ObjOk X.prog X.w H1 s1.heap a (.frz o u) from I1.hok a _ e1)
      rw [ho1] at z
      cases z
      exact e2
    · have z := I1.kIn a o e1
      rw [ho1] at z
      cases z
      exact e2
  refine ⟨"tuple", id, PySem.F.plainAttrs_tuple, slot, hty, ⟨oa, ho1, hc1⟩, fun b e => ?_, ?_⟩
  · cases e
    exact ⟨oa, ho1, bare⟩
  · have hA := ha.run cpos pins s1 σ H1 _ I1 q1
    rw [hs] at hA ⊢
    refine Calls.callWith_builtin (by show (false || (backTo cpos (starEach es X.env)).any (·.1)) = false; rw [hplain] <;> rfl) (Calls.evalArgs_plain ?_)
    exact thn hA fun us s2 ⟨vs, H2, I2, r2, q2⟩ => hm pins s2 σ H2 (.ref a) vs _ us Q I2 rfl r2 q2
theorem x_tidx {o e : Expr} {fa fb : SE} {apos cpos : Pos} (ho : QO X ca W o fa) (he : QO X ca W e fb)
    (hbase : attributeBase o "index" X.env (eval o X.env) = eval o X.env := by rfl)
    (hfew : ((backTo cpos (starEach [e] X.env)).all (fun x => !x.1) && (backToKw cpos (keywordEach [] X.env)).all (fun x => x.1.isSome) && decide ([e].length + ([] : List Keyword).length + (if ([] : List Keyword).isEmpty then 0 else 1) < 30)) = true := by rfl)
    (hline : (apos.endLine == cpos.line) = true := by rfl) (hs : starEach [e] X.env = (false, eval e X.env) :: starEach [] X.env := by rfl) (hplain : (backTo cpos (starEach [] X.env)).any (·.1) = false := by rfl) :
    QE X ca W (.Call (.Attribute o "index" apos) [e] [] cpos) (e_tidx fa fb) := by
  refine (pe_tm PySem.F.slot_tuple_index PySem.F.type_tuple_index mt_tup_index ho (pa_cons he pa_nil hs) hbase hfew hline hs hplain).qimp fun σ H Q ⟨H0, F0, F, S, ρ, I, h⟩ => ?_
  refine tO.go (G := GE X.K ca W H0 F0 S σ H F Q) I h (fun c ρ' z => z) (fun z => z) fun x ρ1 v H1 F1 h1 s1 s2 I1 w1 => ?_
  have h1' : GE X.K ca W H0 F0 S σ H F Q (if isST x = true then (fb ρ1).bind fun y ρ2 => .of (gTidx x y) ρ2 else .no) := h1
  by_cases hx : isST x = true
  · rw [if_pos hx] at h1'
    cases x with
    | tup ds =>
      have hb := w1
      obtain ⟨a, vs, rfl, z1, z2, z3⟩ := w1.tuple I1.sub
      refine ⟨⟨a, vs, rfl, z1, ?_⟩, ?_⟩
      · rcases z2.bare hx with ⟨o, u, e1, e2⟩ | z
        · exact .inl ⟨o, u, I1.sub _ _ e1, e2⟩
        · exact .inr z
      · have one : ∀ {σ H Q}, tO X.K ca W fb σ H (fun u H' => Q [u] H') → tCons (tO X.K ca W fb) tNil σ H Q := fun h => h
        refine one ?_
        refine tO.go (G := GE X.K ca W H0 F0 S σ H F Q) I1 h1' (fun c ρ' z => z) (fun z => z) fun y ρ2 u H2 F2 h2 t1 t2 I2 w2 => ?_
        obtain ⟨d, e, ac⟩ := ge_of (F2 := F2) (H2 := H2) h2 (s1.trans t1) (s2.trans t2) I2
        cases y with
        | str z =>
          cases q : D.strs ds with
          | none =>
            have e' : (match D.strs ds with | some ys => (idxS ys z).map fun j => D.int (j : Nat) | none => none) = some d := e
            rw [q] at e'
            cases e'
          | some ys =>
            have e' : (match D.strs ds with | some ys => (idxS ys z).map fun j => D.int (j : Nat) | none => none) = some d := e
            rw [q] at e'
            cases q2 : idxS ys z with
            | none =>
              have e2 : (idxS ys z).map (fun j => D.int (j : Nat)) = some d := e'
              rw [q2] at e2; cases e2
            | some j =>
              have e2 : (idxS ys z).map (fun j => D.int (j : Nat)) = some d := e'
              rw [q2] at e2
              cases e2
              cases w2.str
              obtain ⟨i1, i2⟩ := idxS_at q2
              have hv := strs_v z3 q
              subst hv
              exact ⟨a, ys, z, j, rfl, rfl, sqt_same t1 z1, i1, i2, ac.imm I2.sub (rp_int _)⟩
        | _ => cases e
    | _ => cases hx
  · rw [if_neg hx] at h1'
    exact h1'.elim
end
end OL

namespace OL
open PySem PySem.Spec PyProof.Rows L2
theorem takesN {X : Cx} : Takes X WN := fun u s' ⟨a, B, sI, pins, σ, H, cls, d, e, I, nb, up, sky, na, os, ag, w⟩ => w.elim
theorem g_len0 : ∀ ds ρ ρ', g_nil ds ρ = some ρ' → ds.length = 0
  | [], _, _, _ => rfl
  | _ :: _, _, _, h => nomatch h
theorem g_lenS {g : SG} {r : List D → Env → Option Env} {n : Nat} (k : ∀ ds ρ ρ', r ds ρ = some ρ' → ds.length = n) : ∀ ds ρ ρ', g_cons g r ds ρ = some ρ' → ds.length = n + 1
  | [], _, _, h => nomatch h
  | d :: ds, ρ, ρ', h => by
    have h' : (g d ρ).bind (r ds) = some ρ' := h
    cases e : g d ρ with
    | none => rw [e] at h'; cases h'
    | some ρ1 =>
      rw [e] at h'
      rw [List.length_cons, k ds ρ1 ρ' h']
theorem g_len1 {a : SG} : ∀ ds ρ ρ', g_cons a g_nil ds ρ = some ρ' → ds.length = 1 := g_lenS g_len0
theorem g_len2 {a b : SG} : ∀ ds ρ ρ', g_cons a (g_cons b g_nil) ds ρ = some ρ' → ds.length = 2 := g_lenS g_len1
theorem g_len3 {a b c : SG} : ∀ ds ρ ρ', g_cons a (g_cons b (g_cons c g_nil)) ds ρ = some ρ' → ds.length = 3 := g_lenS g_len2
theorem g_len4 {a b c d : SG} : ∀ ds ρ ρ', g_cons a (g_cons b (g_cons c (g_cons d g_nil))) ds ρ = some ρ' → ds.length = 4 := g_lenS g_len3
theorem g_len5 {a b c d e : SG} : ∀ ds ρ ρ', g_cons a (g_cons b (g_cons c (g_cons d (g_cons e g_nil)))) ds ρ = some ρ' → ds.length = 5 := g_lenS g_len4
/-- what is never reached -/
def s_dead : SS := fun _ => .no
def augI (op : Int → Int → Int) (i : Nat) (f : SE) : SS := fun ρ => match ρ[i]? with
  | some (some (.int a)) => (f ρ).st fun d ρ1 => match d with
    | .int b => .nx (ρ1.set i (some (.int (op a b))))
    | _ => .no
  | _ => .no
def s_add (i : Nat) (f : SE) : SS := augI (· + ·) i f
def s_sub (i : Nat) (f : SE) : SS := augI (· - ·) i f
section
variable {X : Cx} {ca : Nat → Addr} {W : WX} {pos : Pos}
theorem x_dead {st : Stmt} : QS X ca W st s_dead := ⟨fun pins s σ H D I ⟨H0, F0, F, S, ρ, J, h⟩ => h.elim⟩
theorem x_aug {i : Nat} {x : Str} {e : Expr} {op : Operator} {k : Int → Int → Int} {f : SE} {pos' : Pos} (ho : PIp X op (ipI k)) (hN : X.N.Nodup) (hi : X.N[i]? = some x) (hx : Loc X.env.scope x) (he : QE X ca W e f)
    (hf : X.fn x = true ∨ X.env.scope.names.lookup x = some .local := by first | exact .inl rfl | exact .inr rfl | assumption) : QS X ca W (.AugAssign (.Name x pos') op e pos) (augI k i f) :=
  (ps_aug hN hi hx he ho hf).qimp fun D σ H ⟨H0, F0, F, S, ρ, I, h⟩ => by
    have h' : GS X.K ca W H0 F0 S F D (augI k i f ρ) := h
    unfold augI at h'
    split at h'
    · rename_i a q
      obtain ⟨v, ev, w⟩ := I.peek q
      cases w.int
      refine ⟨_, ev, tE.st I h' fun d ρ1 y H1 F1 g s J => ?_⟩
      cases d with
      | int b =>
        cases J.top1.int
        exact ⟨a, b, rfl, rfl, g _ H1 F1 (Same.refl _) ((J.pop.imm (rp_int _)).write' i)⟩
      | _ => exact g.elim
    · exact h'.elim
theorem x_add {i : Nat} {x : Str} {e : Expr} {f : SE} {pos' : Pos} (hN : X.N.Nodup) (hi : X.N[i]? = some x) (hx : Loc X.env.scope x) (he : QE X ca W e f)
    (hf : X.fn x = true ∨ X.env.scope.names.lookup x = some .local := by first | exact .inl rfl | exact .inr rfl | assumption) : QS X ca W (.AugAssign (.Name x pos') .Add e pos) (s_add i f) := x_aug ip_add hN hi hx he hf
theorem x_sub {i : Nat} {x : Str} {e : Expr} {f : SE} {pos' : Pos} (hN : X.N.Nodup) (hi : X.N[i]? = some x) (hx : Loc X.env.scope x) (he : QE X ca W e f)
    (hf : X.fn x = true ∨ X.env.scope.names.lookup x = some .local := by first | exact .inl rfl | exact .inr rfl | assumption) : QS X ca W (.AugAssign (.Name x pos') .Sub e pos) (s_sub i f) := x_aug ip_sub hN hi hx he hf
end
end OL

namespace OL
open PySem PySem.Spec PyProof.Rows L2
section
variable {K : PySem.W.Frag} {h : Heap} {mg : Str → Option Value}
/-- a def that the top has written -/
theorem one_fn {x : Str} {ps : List Str} {f : Addr} {st : Stmt} {od an : Option Addr} {sl : Array (Option Value)} {oc kV dc pm cd ct : Value} (X : K.In h) (G : h.Ns mainGlobals mg)
    (hb : ∀ (kV doc pm : Value) (an : Option Addr) (cdv ct : Value) (us : List Value), us.length = ps.length → bindArgs (PySem.W.fnOf x x (defArgs st) (defBody st) (defScope st) .none kV doc pm an cdv ct) ⟨us, []⟩ = pure (ps.zip us))
    (a : PySem.W.nsIn K mainGlobals x = some (some (.ref f))) (l : K.lookup f = some ⟨oc, od, .func (PySem.W.fnOf x x (defArgs st) (defBody st) (defScope st) .none kV dc pm an cd ct), sl⟩) (c : PySem.W.codeIn K cd x = true) (k : PySem.W.keepIn K (.ref f) = true) :
    ∃ f fd, mg x = some (.ref f) ∧ Fun K x x st f fd ∧ PySem.W.keepIn K (.ref f) = true ∧ Binds K fd ps [] ∧ ∀ (s : Shared) (us : List Value), us.length = ps.length → BindsTo s fd ⟨us, []⟩ (ps.zip us) := by
  have F := fun_mk (st := st) l c k
  exact ⟨f, _, PySem.W.mg_of X G a, F, k, F.binds hb, fun s us hu => .of_eq (hb kV dc pm an cd ct us hu)⟩
/-- an own class of errors -/
structure ClsOk (K : PySem.W.Frag) (mg : Str → Option Value) (x : Str) (C : Addr) : Prop where
  c : mg x = some (.ref C)
  x : PySem.W.excIn K C [.type "ValueError", .type "Exception", .type "BaseException", .type "object"] "ValueError.__new__" = true
  k : PySem.W.keepIn K (.ref C) = true
  s : PySem.W.subIn K (.ref C) (.type "BaseException") = some true
  t : PySem.W.typeIn K (.ref C) = some (.type "type")
  d : PySem.W.hasDictIn K C = true
  e : ExcC K C
theorem one_cls {x : Str} {C : Addr} (X : K.In h) (G : h.Ns mainGlobals mg) (a : PySem.W.nsIn K mainGlobals x = some (some (.ref C)))
    (q : PySem.W.excIn K C [.type "ValueError", .type "Exception", .type "BaseException", .type "object"] "ValueError.__new__" = true) (k : PySem.W.keepIn K (.ref C) = true) (s : PySem.W.subIn K (.ref C) (.type "BaseException") = some true)
    (t : PySem.W.typeIn K (.ref C) = some (.type "type")) (d : PySem.W.hasDictIn K C = true)
    (e1 : PySem.W.findIn K (.ref C) "__getattribute__" = some (some (.builtin "BaseException.__getattribute__"))) (e2 : PySem.W.findIn K (.ref C) "__getattr__" = some none)
    (e3 : PySem.W.findIn K (.ref C) "__class__" = some (some (.builtin "object.__class__"))) (e4 : PySem.W.specialIn K (.builtin "object.__class__") "__get__" = some (some (.builtin "getset_descriptor.__get__")))
    (e5 : PySem.W.takesIn K (.builtin "object.__class__") = some true) (e6 : PySem.W.mroIn K C (.type "object") = some true) : ClsOk K mg x C :=
  ⟨PySem.W.mg_of X G a, q, k, s, t, d, ⟨e1, e2, s, d, e3, e4, e5, e6⟩⟩
theorem cls_exm {x y : Str} {C D : Addr} {b : Bool} (o : ClsOk K mg y D) (h4 : PySem.W.subIn K (.ref C) (.ref D) = some b) : PySem.W.exmOne K (.ref C) (.ref D) = some b := PySem.W.exm_ref o.s o.d o.t h4
theorem cls_kit {y : Str} {t : Value} {D : Addr} {b : Bool} (o : ClsOk K mg y D) (h4 : PySem.W.subIn K t (.ref D) = some b) (hb : b = true ∨ (t == .ref D) = false) : PySem.W.kitOne K t (.ref D) = some b := by
  unfold PySem.W.kitOne
  by_cases e : (t == .ref D) = true
  · rw [if_pos e]
    rcases hb with rfl | hb
    · rfl
    · rw [hb] at e; cases e
  · rw [if_neg e]
    obtain ⟨cd, hc, _⟩ := PySem.W.any_some o.d
    have e2 : ((PySem.W.clsIn K D).isSome && PySem.W.typeIn K (.ref D) == some (.type "type")) = true := by rw [hc, o.t] <;> rfl
    show (if ((PySem.W.clsIn K D).isSome && PySem.W.typeIn K (.ref D) == some (.type "type")) = true then PySem.W.subIn K t (.ref D) else none) = some b
    rw [if_pos e2]
    exact h4
/-- the law's promise -/
def spLaw (K : PySem.W.Frag) (n : Nat) : Sp := fun vs H Q _ => ∃ (a : Addr) (ns : List Int), vs = [.ref a] ∧ SqL K H a (ns.map V.int) ∧ ns.length ≤ n ∧ ∀ H', Q (.bl true) H'
theorem rps_ints {F H : Hp} : ∀ ns : List Int, Rps K F H (ns.map D.int) (ns.map V.int) []
  | [] => ⟨rfl, rfl⟩
  | n :: ns => ⟨.int n, ns.map V.int, [], [], rfl, rfl, rp_int n, rps_ints ns⟩
theorem law_sp {ca : Nat → Addr} {s : SF} {n : Nat} (hs : ∀ ns : List Int, ns.length ≤ n → s [.lst false (ns.map D.int)] = .ok (.bl true)) : ∀ vs H Q E, spLaw K n vs H Q E → spOf K ca s vs H Q E := by
  rintro vs H Q E ⟨a, ns, rfl, hS, hn, q⟩
  refine ⟨[.lst false (ns.map D.int)], H, Same.refl _, Rps.one ⟨a, ns.map V.int, rfl, hS, rps_ints ns, rfl⟩, ?_⟩
  rw [hs ns hn]
  intro v H' F' J
  have w : WR K F' H' (.bl true) v := J.top1
  cases w.bl
  exact q H'
theorem cx_none {P : Program} {w : World} {outer : List PySem.Env} {H : Hp} {s s' : Shared} {e : Value} (h : L2.CX P w outer H s (fun _ _ _ => False) e s') : False := by
  obtain ⟨_, _, _, _, _, _, _, _, _, _, _, _, h⟩ := h
  exact h
end
end OL

namespace OL
open PySem PySem.Spec L2
/-! ### the semantic functions, evaluated -/
section
variable {ρ : Env} {i p n : Nat} {d : D} {fa fb fc : SE} {a b : SS} {t u : ST} {fs fr : SEs} {g : SG}
theorem ev_fn (ds : List D) : fnS p n b ds = if ds.length = p then (b (startE n ds)).out else .no := by rfl
theorem ev_start (ds : List D) : startE n ds = ds.map some ++ List.replicate (n - ds.length) none := by rfl
theorem ev_seq : s_seq a b ρ = (a ρ).then b := by rfl
theorem ev_nil : s_nil ρ = .nx ρ := by rfl
theorem ev_nx : (RO.nx ρ).then b = b ρ := by rfl
theorem ev_rt : (RO.rt d ρ).then b = .rt d ρ := by rfl
theorem ev_bk : (RO.bk ρ).then b = .bk ρ := by rfl
theorem ev_ct : (RO.ct ρ).then b = .ct ρ := by rfl
theorem ev_ex {c : Nat} : (RO.ex c ρ).then b = .ex c ρ := by rfl
theorem ev_ono : RO.no.then b = .no := by rfl
theorem ev_onx : (RO.nx ρ).out = .ok .non := by rfl
theorem ev_ort : (RO.rt d ρ).out = .ok d := by rfl
theorem ev_oex {c : Nat} : (RO.ex c ρ).out = .ex c := by rfl
theorem ev_set : s_set i fa ρ = (fa ρ).st fun d ρ1 => .nx (ρ1.set i (some d)) := by rfl
theorem ev_ret : s_ret fa ρ = (fa ρ).st fun d ρ1 => .rt d ρ1 := by rfl
theorem ev_if : s_if t a b ρ = (t ρ).st fun c ρ1 => if c = true then a ρ1 else b ρ1 := by rfl
theorem ev_expr : s_expr fa ρ = (fa ρ).st fun _ ρ1 => .nx ρ1 := by rfl
theorem ev_raise {c : Nat} : s_raise c ρ = .ex c ρ := by rfl
theorem ev_c : e_c d ρ = .ok d ρ := by rfl
theorem ev_peek : e_peek i ρ = match ρ[i]? with | some (some d) => .ok d ρ | _ => .no := by rfl
theorem ev_var : e_var i ρ = match ρ[i]? with | some (some d) => .ok d.frz (ρ.set i (some d.frz)) | _ => .no := by rfl
theorem ev_mov : e_mov i ρ = match ρ[i]? with | some (some d) => .ok d (ρ.set i none) | _ => .no := by rfl
theorem ev_op {g : D → D → Option D} : e_op g fa fb ρ = (fa ρ).bind fun x ρ1 => (fb ρ1).bind fun y ρ2 => .of (g x y) ρ2 := by rfl
theorem ev_ix : e_ix fa fb ρ = (fa ρ).bind fun x ρ1 => (fb ρ1).bind fun y ρ2 => .of (gIx x y) ρ2 := by rfl
theorem ev_un {g : D → Option D} : e_un g fa ρ = (fa ρ).bind fun x ρ1 => .of (g x) ρ1 := by rfl
theorem ev_isi {T : String} : e_isi T fa ρ = (fa ρ).bind fun x ρ1 => .of (gIs T x) ρ1 := by rfl
theorem ev_callB {g : List D → Option D} : e_callB g fs ρ = (fs ρ).bind fun ds ρ1 => .of (g ds) ρ1 := by rfl
theorem ev_call {s : SF} : e_call s fs ρ = (fs ρ).bind fun ds ρ1 => callF s ds ρ1 := by rfl
theorem ev_callF {s : SF} {ds : List D} : callF s ds ρ = match s (D.frzs ds) with | .ok d => if d.clean = true ∨ D.ownss ds = false then .ok d ρ else .no | .ex c => .ex c ρ | .no => .no := by rfl
theorem ev_esn : es_nil ρ = .ok [] ρ := by rfl
theorem ev_esc : es_cons fa fs ρ = (fa ρ).bind fun x ρ1 => (fs ρ1).bind fun xs ρ2 => .ok (x :: xs) ρ2 := by rfl
theorem ev_tup : e_tup fs ρ = (fs ρ).bind fun ds ρ1 => if ds.length ≤ sizeLine then .ok (.tup ds) ρ1 else .no := by rfl
theorem ev_lst : e_lst fs ρ = (fs ρ).bind fun ds ρ1 => if ds.length ≤ sizeLine then .ok (.lst true ds) ρ1 else .no := by rfl
theorem ev_tof : t_of fa ρ = (fa ρ).bind fun d ρ1 => match d with | .bl b => .ok b ρ1 | _ => .no := by rfl
theorem ev_and : t_and t u ρ = (t ρ).bind fun b ρ1 => if b = true then u ρ1 else .ok false ρ1 := by rfl
theorem ev_or : t_or t u ρ = (t ρ).bind fun b ρ1 => if b = true then .ok true ρ1 else u ρ1 := by rfl
theorem ev_not : t_not t ρ = (t ρ).bind fun b ρ1 => .ok (!b) ρ1 := by rfl
theorem ev_yes : t_yes ρ = .ok true ρ := by rfl
theorem ev_eand : e_and fa fb ρ = (fa ρ).bind fun x ρ1 => match x with | .bl b => if b = true then fb ρ1 else .ok (.bl false) ρ1 | _ => .no := by
  unfold e_and
  cases fa ρ with
  | ok x ρ1 => cases x with
    | bl b => cases b <;> rfl
    | _ => rfl
  | ex c ρ1 => rfl
  | no => rfl
theorem ev_eor : e_or fa fb ρ = (fa ρ).bind fun x ρ1 => match x with | .bl b => if b = true then .ok (.bl true) ρ1 else fb ρ1 | _ => .no := by
  unfold e_or
  cases fa ρ with
  | ok x ρ1 => cases x with
    | bl b => cases b <;> rfl
    | _ => rfl
  | ex c ρ1 => rfl
  | no => rfl
theorem ev_eif : e_if t fa fb ρ = (t ρ).bind fun b ρ1 => if b = true then fa ρ1 else fb ρ1 := by rfl
theorem ev_chain {g g' : D → D → Option D} : e_chain g g' fa fb fc ρ = (fa ρ).bind fun x ρ1 => (fb ρ1).bind fun y ρ2 => match g x y with
  | some (.bl k) => if k = true then (fc ρ2).bind fun z ρ3 => .of (g' y z) ρ3 else .ok (.bl false) ρ2
  | _ => .no := by rfl
theorem ev_sl {fl fh : Env → RE (Option Int)} : e_sl fa fl fh ρ = (fa ρ).bind fun x ρ1 => (fl ρ1).bind fun l ρ2 => (fh ρ2).bind fun u ρ3 => .of (gSl x l u) ρ3 := by rfl
theorem ev_pn : p_none ρ = .ok none ρ := by rfl
theorem ev_ps : p_some fa ρ = (fa ρ).bind fun d ρ1 => match d with | .int i => .ok (some i) ρ1 | _ => .no := by rfl
theorem ev_lc {vs : List Nat} : e_lc vs fs g t fa ρ = (fs ρ).bind fun ds ρ1 => lcL vs g t fa ds [] (wipeE ρ1 vs) := by rfl
theorem ev_asg : s_asg g fa ρ = (fa ρ).st fun d ρ1 => match g d ρ1 with | some ρ2 => .nx ρ2 | none => .no := by rfl
theorem ev_gn : g_name i d ρ = some (ρ.set i (some d)) := by rfl
theorem ev_gt {r : List D → Env → Option Env} {ds : List D} : g_tup r (.tup ds) ρ = if D.ownss ds = false then r ds ρ else none := by rfl
theorem ev_gc {r : List D → Env → Option Env} {ds : List D} : g_cons g r (d :: ds) ρ = (g d ρ).bind (r ds) := by rfl
theorem ev_gnil : g_nil [] ρ = some ρ := by rfl
theorem ev_for : s_for fs g b ρ = (fs ρ).st fun ds ρ1 => forL g b ds ρ1 := by rfl
theorem ev_while : s_while n t b ρ = whileL t b n ρ := by rfl
theorem ev_range {h : List D → Option (List D)} : i_range h fs ρ = (fs ρ).bind fun ds ρ1 => .of (h ds) ρ1 := by rfl
theorem ev_iof : i_of fa ρ = (fa ρ).bind fun d ρ1 => match d with | .lst _ ds => .ok (D.frzs ds) ρ1 | .tup ds => .ok (D.frzs ds) ρ1 | .str x => .ok (signs x) ρ1 | _ => .no := by rfl
theorem ev_ienum : i_enum fa ρ = (fa ρ).bind fun d ρ1 => match d with | .lst _ ds => .ok (enumD 0 (D.frzs ds)) ρ1 | _ => .no := by rfl
theorem ev_append : s_append i fa ρ = match ownL ρ i with
  | none => .no
  | some _ => (fa ρ).st fun d ρ1 => match ownL ρ1 i with
    | some ds => if ds.length < sizeLine then .nx (ρ1.set i (some (.lst true (ds ++ [d])))) else .no
    | none => .no := by rfl
theorem ev_tidx : e_tidx fa fb ρ = (fa ρ).bind fun x ρ1 => if isST x = true then (fb ρ1).bind fun y ρ2 => .of (gTidx x y) ρ2 else .no := by rfl
theorem ev_isc {K : PySem.W.Frag} {C : Addr} : e_isc K C fa ρ = (fa ρ).bind fun x ρ1 => .of (gIsC K C x) ρ1 := by rfl
theorem ev_try {k : Nat → SS} : s_try b k ρ = match b ρ with | .ex c ρ' => k c ρ' | r => r := by rfl
theorem ev_add : s_add i fa ρ = match ρ[i]? with
  | some (some (.int a)) => (fa ρ).st fun d ρ1 => match d with | .int b => .nx (ρ1.set i (some (.int (a + b)))) | _ => .no
  | _ => .no := by rfl
theorem ev_sub : s_sub i fa ρ = match ρ[i]? with
  | some (some (.int a)) => (fa ρ).st fun d ρ1 => match d with | .int b => .nx (ρ1.set i (some (.int (a - b)))) | _ => .no
  | _ => .no := by rfl
end
theorem re_bok {α β : Type} (a : α) (ρ : Env) (k : α → Env → RE β) : (RE.ok a ρ).bind k = k a ρ := by rfl
theorem re_bex {α β : Type} (c : Nat) (ρ : Env) (k : α → Env → RE β) : (RE.ex c ρ).bind k = .ex c ρ := by rfl
theorem re_bno {α β : Type} (k : α → Env → RE β) : (RE.no).bind k = .no := by rfl
theorem re_of {α : Type} (a : α) (ρ : Env) : RE.of (some a) ρ = .ok a ρ := by rfl
theorem re_sok {α : Type} (a : α) (ρ : Env) (k : α → Env → RO) : (RE.ok a ρ).st k = k a ρ := by rfl
theorem re_sex {α : Type} (c : Nat) (ρ : Env) (k : α → Env → RO) : (RE.ex c ρ).st k = .ex c ρ := by rfl
theorem re_sno {α : Type} (k : α → Env → RO) : (RE.no).st k = .no := by rfl
/-! ### plain data -/
/-- a number, a text, None -/
def isW : D → Prop
  | .non => True
  | .int _ => True
  | .str x => PyData.strOk x = true
  | _ => False
theorem own_w {d : D} (h : isW d) : d.owns = false := by cases d <;> first | rfl | exact h.elim
theorem frz_w {d : D} (h : isW d) : d.frz = d := frz_none d (own_w h)
theorem owns_ws : ∀ {ds : List D}, (∀ d ∈ ds, isW d) → D.ownss ds = false
  | [], _ => rfl
  | d :: ds, h => by
    show (d.owns || D.ownss ds) = false
    rw [own_w (h d List.mem_cons_self), owns_ws fun x hx => h x (List.mem_cons_of_mem _ hx)]
    rfl
theorem owns_all : ∀ {ds : List D}, (∀ d ∈ ds, d.owns = false) → D.ownss ds = false
  | [], _ => rfl
  | d :: ds, h => by
    show (d.owns || D.ownss ds) = false
    rw [h d List.mem_cons_self, owns_all fun x hx => h x (List.mem_cons_of_mem _ hx)]
    rfl
theorem frzs_ws {ds : List D} (h : ∀ d ∈ ds, isW d) : D.frzs ds = ds := frzs_none ds (owns_ws h)
/-! ### lists -/
theorem atI_get {α : Type} {xs : List α} {i : Nat} {x : α} (h : xs[i]? = some x) : atI xs (i : Nat) = some x := by
  have hl : i < xs.length := (List.getElem?_eq_some_iff.mp h).1
  unfold atI ixN
  rw [if_pos (by omega), if_pos (by omega)]
  simpa using h
theorem still_of {d : D} (h : d.owns = false) : d.still = some d := if_pos h
/-! ### loops -/
/-- a list comprehension without a test, its slots the same behind each turn -/
theorem lcL_map {vs : List Nat} {g : SG} {fe : SE} {ρ : Env} {y : D → D} : ∀ {ds acc : List D}, (∀ d ∈ ds, ∃ ρ1 ρ3, g d ρ = some ρ1 ∧ fe ρ1 = .ok (y d) ρ3 ∧ wipeE ρ3 vs = ρ) → acc.length + ds.length ≤ sizeLine → lcL vs g t_yes fe ds acc ρ = .ok (.lst true (acc ++ ds.map y)) ρ
  | [], acc, _, _ => by simp [lcL]
  | d :: ds, acc, h, hl => by
    obtain ⟨ρ1, ρ3, h1, h2, h3⟩ := h d List.mem_cons_self
    rw [List.length_cons] at hl
    have hlt : acc.length < sizeLine := by omega
    unfold lcL
    simp only [h1, t_yes, h2, if_pos hlt, h3]
    rw [lcL_map (fun x hx => h x (List.mem_cons_of_mem _ hx)) (by rw [List.length_append]; simp only [List.length_cons, List.length_nil]; omega)]
    simp
/-- .. with a test -/
theorem lcL_filter {vs : List Nat} {g : SG} {t : ST} {fe : SE} {ρ : Env} {y : D → D} {p : D → Bool} : ∀ {ds acc : List D}, (∀ d ∈ ds, ∃ ρ1 ρ2, g d ρ = some ρ1 ∧ t ρ1 = .ok (p d) ρ2 ∧ (p d = false → wipeE ρ2 vs = ρ) ∧ (p d = true → ∃ ρ3, fe ρ2 = .ok (y d) ρ3 ∧ wipeE ρ3 vs = ρ)) → acc.length + ds.length ≤ sizeLine →
    lcL vs g t fe ds acc ρ = .ok (.lst true (acc ++ (ds.filter p).map y)) ρ
  | [], acc, _, _ => by simp [lcL]
  | d :: ds, acc, h, hl => by
    obtain ⟨ρ1, ρ2, h1, h2, h3, h4⟩ := h d List.mem_cons_self
    rw [List.length_cons] at hl
    have hlt : acc.length < sizeLine := by omega
    unfold lcL
    cases q : p d with
    | false =>
      rw [q] at h2
      simp only [h1, h2, h3 q]
      rw [lcL_filter (fun x hx => h x (List.mem_cons_of_mem _ hx)) (by omega)]
      simp [q]
    | true =>
      rw [q] at h2
      obtain ⟨ρ3, h5, h6⟩ := h4 q
      simp only [h1, h2, h5, if_pos hlt, h6]
      rw [lcL_filter (fun x hx => h x (List.mem_cons_of_mem _ hx)) (by rw [List.length_append]; simp only [List.length_cons, List.length_nil]; omega)]
      simp [q]
/-- a for loop that runs to its end -/
theorem forL_run {g : SG} {b : SS} (P : List D → Env → Prop) (h : ∀ d ds ρ, P (d :: ds) ρ → ∃ ρ1 ρ2, g d ρ = some ρ1 ∧ (b ρ1 = .nx ρ2 ∨ b ρ1 = .ct ρ2) ∧ P ds ρ2) : ∀ {ds : List D} {ρ : Env}, P ds ρ → ∃ ρ', forL g b ds ρ = .nx ρ' ∧ P [] ρ'
  | [], ρ, p => ⟨ρ, rfl, p⟩
  | d :: ds, ρ, p => by
    obtain ⟨ρ1, ρ2, h1, h2, h3⟩ := h d ds ρ p
    obtain ⟨ρ', h4, h5⟩ := forL_run P h h3
    refine ⟨ρ', ?_, h5⟩
    unfold forL
    rcases h2 with h2 | h2
    · simp only [h1, h2, h4]
    · simp only [h1, h2, h4]
/-! ### == -/
def D.dat (n : Nat) (d : D) : Prop := ∃ p, d.py = some p ∧ p.canLay0 = true ∧ p.depth ≤ n
def D.dats (n : Nat) (ds : List D) : Prop := ∃ ps, D.pys ds = some ps ∧ PyData.canLayAll0 ps = true ∧ PyData.depthAll ps ≤ n
theorem dats_of {n : Nat} : ∀ {ds : List D}, (∀ d ∈ ds, d.dat n) → D.dats n ds
  | [], _ => ⟨[], rfl, rfl, by simp [PyData.depthAll]⟩
  | d :: ds, h => by
    obtain ⟨p, h1, h2, h3⟩ := h d List.mem_cons_self
    obtain ⟨ps, h4, h5, h6⟩ := dats_of fun x hx => h x (List.mem_cons_of_mem _ hx)
    refine ⟨p :: ps, ?_, ?_, ?_⟩
    · show (match d.py, D.pys ds with | some p, some ps => some (p :: ps) | _, _ => none) = _
      rw [h1, h4]
    · simp only [PyData.canLayAll0, h2, h5, Bool.and_self]
    · simp only [PyData.depthAll]
      exact Nat.max_le.mpr ⟨h3, h6⟩
theorem D.dat.mono {n m : Nat} {d : D} (h : d.dat n) (k : n ≤ m) : d.dat m := let ⟨p, h1, h2, h3⟩ := h; ⟨p, h1, h2, Nat.le_trans h3 k⟩
theorem dat_w {d : D} (h : isW d) : d.dat 0 := by
  cases d with
  | non => exact ⟨_, rfl, rfl, by simp [PyData.depth]⟩
  | int i => exact ⟨_, rfl, rfl, by simp [PyData.depth]⟩
  | str x => exact ⟨_, rfl, h, by simp [PyData.depth]⟩
  | _ => exact h.elim
theorem dat_bl {b : Bool} : (D.bl b).dat 0 := ⟨_, rfl, rfl, by simp [PyData.depth]⟩
theorem dat_tup {n : Nat} {ds : List D} (h : ∀ d ∈ ds, d.dat n) : (D.tup ds).dat (n + 1) := by
  obtain ⟨ps, h4, h5, h6⟩ := dats_of h
  refine ⟨.tuple ps, ?_, h5, by simpa [PyData.depth] using h6⟩
  show (D.pys ds).map PyData.tuple = _
  rw [h4]; rfl
theorem dat_lst {n : Nat} {o : Bool} {ds : List D} (h : ∀ d ∈ ds, d.dat n) : (D.lst o ds).dat (n + 1) := by
  obtain ⟨ps, h4, h5, h6⟩ := dats_of h
  refine ⟨.list ps, ?_, h5, by simpa [PyData.depth] using h6⟩
  show (D.pys ds).map PyData.list = _
  rw [h4]; rfl
mutual
theorem eqv_self : ∀ p : PyData, p.canLay0 = true → PyData.eqv p p = true
  | .none, _ => by simp [PyData.eqv]
  | .bool b, _ => by simp [PyData.eqv]
  | .int i, _ => by simp [PyData.eqv]
  | .str x, _ => by simp [PyData.eqv]
  | .list ps, h => by
    have h' : PyData.canLayAll0 ps = true := h
    simp only [PyData.eqv]
    exact eqv_selfs ps h'
  | .tuple ps, h => by
    have h' : PyData.canLayAll0 ps = true := h
    simp only [PyData.eqv]
    exact eqv_selfs ps h'
  | .dict kvs, h => nomatch h
theorem eqv_selfs : ∀ ps : List PyData, PyData.canLayAll0 ps = true → PyData.eqvAll ps ps = true
  | [], _ => by simp [PyData.eqvAll]
  | p :: ps, h => by
    simp only [PyData.canLayAll0, Bool.and_eq_true] at h
    simp only [PyData.eqvAll, eqv_self p h.1, eqv_selfs ps h.2, Bool.and_self]
end
theorem peq_dat {n : Nat} {x y : D} (hx : x.dat n) (hy : y.dat n) (hn : n ≤ 64 := by decide) : ∃ p q, x.py = some p ∧ y.py = some q ∧ D.peq x y = some (PyData.eqv p q) := by
  obtain ⟨p, h1, h2, h3⟩ := hx
  obtain ⟨q, h4, h5, h6⟩ := hy
  refine ⟨p, q, h1, h4, ?_⟩
  unfold D.peq
  rw [h1, h4]
  have s1 : SeqAt.shaped p = true := by unfold SeqAt.shaped; rw [h2, decide_eq_true (Nat.le_trans h3 hn)]; rfl
  have s2 : SeqAt.shaped q = true := by unfold SeqAt.shaped; rw [h5, decide_eq_true (Nat.le_trans h6 hn)]; rfl
  exact if_pos ⟨s1, s2⟩
theorem peq_same {n : Nat} {x y : D} (hx : x.dat n) (e : y.py = x.py) (hn : n ≤ 64 := by decide) : D.peq x y = some true := by
  have hy : y.dat n := by obtain ⟨p, h⟩ := hx; exact ⟨p, by rw [e]; exact h.1, h.2⟩
  obtain ⟨p, q, h1, h2, h3⟩ := peq_dat hx hy hn
  rw [e, h1] at h2
  cases h2
  rw [h3]
  obtain ⟨p', h4, h5, _⟩ := hx
  rw [h1] at h4
  cases h4
  rw [eqv_self p h5]
theorem ne_same {n : Nat} {x y : D} (hx : x.dat n) (e : y.py = x.py) (hn : n ≤ 64 := by decide) : gNe x y = some (.bl false) := by
  unfold gNe
  rw [peq_same hx e hn]; rfl
theorem eq_same {n : Nat} {x y : D} (hx : x.dat n) (e : y.py = x.py) (hn : n ≤ 64 := by decide) : gEq x y = some (.bl true) := by
  unfold gEq
  rw [peq_same hx e hn]; rfl
theorem ne_lst {n : Nat} {o o' : Bool} {ds : List D} (h : ∀ d ∈ ds, d.dat n) (hn : n + 1 ≤ 64 := by decide) : gNe (.lst o ds) (.lst o' ds) = some (.bl false) := ne_same (dat_lst h) rfl hn
/-- worths compared -/
def weq : D → D → Bool
  | .non, .non => true
  | .int i, .int j => decide (i = j)
  | .str x, .str y => decide (x = y)
  | _, _ => false
theorem peq_w {x y : D} (hx : isW x) (hy : isW y) : D.peq x y = some (weq x y) := by
  obtain ⟨p, q, h1, h2, h3⟩ := peq_dat (dat_w hx) (dat_w hy)
  rw [h3]
  cases x <;> cases y <;> first | exact hx.elim | exact hy.elim | (cases h1; cases h2; simp [PyData.eqv, weq]; done) | (cases h1; cases h2; simp only [PyData.eqv, weq]; exact congrArg some (Bool.eq_iff_iff.mpr (by simp)))
theorem eq_w {x y : D} (hx : isW x) (hy : isW y) : gEq x y = some (.bl (weq x y)) := by unfold gEq; rw [peq_w hx hy]; rfl
theorem ne_w {x y : D} (hx : isW x) (hy : isW y) : gNe x y = some (.bl (!weq x y)) := by unfold gNe; rw [peq_w hx hy]; rfl
theorem eq_int {i j : Int} : gEq (.int i) (.int j) = some (.bl (decide (i = j))) := eq_w (x := .int i) (y := .int j) trivial trivial
theorem ne_int {i j : Int} : gNe (.int i) (.int j) = some (.bl (!decide (i = j))) := ne_w (x := .int i) (y := .int j) trivial trivial
theorem eq_bl {i j : Bool} : gEq (.bl i) (.bl j) = some (.bl (decide (i = j))) := by
  obtain ⟨p, q, h1, h2, h3⟩ := peq_dat (dat_bl (b := i)) (dat_bl (b := j))
  unfold gEq
  rw [h3]
  cases h1; cases h2
  cases i <;> cases j <;> rfl
theorem ne_bl {i j : Bool} : gNe (.bl i) (.bl j) = some (.bl (!decide (i = j))) := by
  obtain ⟨p, q, h1, h2, h3⟩ := peq_dat (dat_bl (b := i)) (dat_bl (b := j))
  unfold gNe
  rw [h3]
  cases h1; cases h2
  cases i <;> cases j <;> rfl
end OL

namespace OL
open PySem PySem.Spec
/-! ### operators, evaluated -/
theorem v_add {i j : Int} : OL.gAdd (.int i) (.int j) = some (.int (i + j)) := by rfl
theorem v_sub {i j : Int} : OL.gSub (.int i) (.int j) = some (.int (i - j)) := by rfl
theorem v_mod {i j : Int} (h : 0 < j) : OL.gMod (.int i) (.int j) = some (.int (i % j)) := if_pos h
theorem v_div {i j : Int} (h : 0 < j) (h2 : j < 1073741824) : OL.gDiv (.int i) (.int j) = some (.int (i / j)) := if_pos ⟨h, h2⟩
theorem log_small {i : Int} (h : i.natAbs < 2 ^ 100) : i.natAbs.log2 < 100 := by
  by_cases e : i.natAbs = 0
  · rw [e]; decide
  · exact (Nat.log2_lt e).mpr h
theorem v_mul {i j : Int} (h : i.natAbs < 2 ^ 100) (h2 : j.natAbs < 2 ^ 100) : OL.gMul (.int i) (.int j) = some (.int (i * j)) := by
  refine if_pos ?_
  have := log_small h
  have := log_small h2
  omega
theorem v_neg {i : Int} : OL.gNeg (.int i) = some (.int (-i)) := by rfl
theorem v_lt {i j : Int} : OL.gLt (.int i) (.int j) = some (.bl (decide (i < j))) := by rfl
theorem v_lts {x y : Str} : OL.gLt (.str x) (.str y) = some (.bl (decide (x.cps.toList < y.cps.toList))) := by rfl
theorem v_le {i j : Int} : OL.gLe (.int i) (.int j) = some (.bl (decide (i ≤ j))) := by rfl
theorem v_gt {i j : Int} : OL.gGt (.int i) (.int j) = some (.bl (decide (j < i))) := by rfl
theorem v_ge {i j : Int} : OL.gGe (.int i) (.int j) = some (.bl (decide (j ≤ i))) := by rfl
theorem v_isN {x : D} : OL.gIsN x .non = some (.bl x.isNon) := by rfl
theorem v_notN {x : D} : OL.gNotN x .non = some (.bl (!x.isNon)) := by rfl
theorem v_lenL {o : Bool} {ds : List D} : OL.gLen [.lst o ds] = some (.int ds.length) := by rfl
theorem v_lenT {ds : List D} : OL.gLen [.tup ds] = some (.int ds.length) := by rfl
theorem v_tupL {o : Bool} {ds : List D} (h : D.ownss ds = false) : OL.gTuple [.lst o ds] = some (.tup ds) := if_pos h
theorem v_tupT {ds : List D} (h : D.ownss ds = false) : OL.gTuple [.tup ds] = some (.tup ds) := if_pos h
theorem v_lstL {o : Bool} {ds : List D} (h : D.ownss ds = false) : OL.gList [.lst o ds] = some (.lst true ds) := if_pos h
theorem v_lstT {ds : List D} (h : D.ownss ds = false) : OL.gList [.tup ds] = some (.lst true ds) := if_pos h
theorem v_catL {o o' : Bool} {xs ys : List D} (h1 : D.ownss xs = false) (h2 : D.ownss ys = false) (h3 : xs.length + ys.length ≤ sizeLine) : OL.gAdd (.lst o xs) (.lst o' ys) = some (.lst true (xs ++ ys)) := if_pos ⟨h1, h2, h3⟩
theorem v_slL {o : Bool} {ds : List D} {l h : Option Int} (k : D.ownss ds = false) : OL.gSl (.lst o ds) l h = some (.lst true (cutL ds l h)) := if_pos k
theorem v_slT {ds : List D} {l h : Option Int} (k : D.ownss ds = false) : OL.gSl (.tup ds) l h = some (.tup (cutL ds l h)) := if_pos k
theorem v_ixL {o : Bool} {ds : List D} {i : Nat} {d : D} (h : ds[i]? = some d) (k : d.owns = false) : OL.gIx (.lst o ds) (.int (i : Nat)) = some d := by
  show (L2.atI ds (i : Nat)).bind D.still = _
  rw [atI_get h]
  exact still_of k
theorem v_ixT {ds : List D} {i : Nat} {d : D} (h : ds[i]? = some d) (k : d.owns = false) : OL.gIx (.tup ds) (.int (i : Nat)) = some d := by
  show (L2.atI ds (i : Nat)).bind D.still = _
  rw [atI_get h]
  exact still_of k
theorem v_ix0 {d : D} {ds : List D} (k : d.owns = false) : OL.gIx (.tup (d :: ds)) (.int 0) = some d := v_ixT (i := 0) rfl k
theorem v_ix1 {d e : D} {ds : List D} (k : e.owns = false) : OL.gIx (.tup (d :: e :: ds)) (.int 1) = some e := v_ixT (i := 1) rfl k
theorem v_ix2 {d e f : D} {ds : List D} (k : f.owns = false) : OL.gIx (.tup (d :: e :: f :: ds)) (.int 2) = some f := v_ixT (i := 2) rfl k
theorem v_ix3 {d e f g : D} {ds : List D} (k : g.owns = false) : OL.gIx (.tup (d :: e :: f :: g :: ds)) (.int 3) = some g := v_ixT (i := 3) rfl k
theorem v_range {n : Nat} (h : n < 2 ^ 62) : OL.gRange1 [.int (n : Nat)] = some (rangeD 0 1 n) := by
  have e : small62 (n : Nat) = true := by
    unfold small62
    rw [decide_eq_true (by omega), decide_eq_true (by omega)]
    rfl
  show (if small62 (n : Nat) = true then some (rangeD 0 1 (n : Int).toNat) else none) = _
  rw [if_pos e, Int.toNat_natCast]
theorem v_range' {j : Int} {n : Nat} (e : j = (n : Nat)) (h : n < 2 ^ 62) : OL.gRange1 [.int j] = some (rangeD 0 1 n) := by rw [e]; exact v_range h
/-- 0 .. n-1 -/
def natsD (n : Nat) : List D := (List.range n).map fun i => .int (i : Nat)
theorem rangeD_nats (n : Nat) : rangeD 0 1 n = natsD n := by
  unfold rangeD natsD
  refine List.map_congr_left fun i _ => ?_
  rw [Int.mul_one, Int.zero_add]
/-! ### isinstance against a built-in type -/
def D.isStr : D → Bool
  | .str _ => true
  | _ => false
def D.isTup : D → Bool
  | .tup _ => true
  | _ => false
def D.isLst : D → Bool
  | .lst _ _ => true
  | _ => false
def D.isBl : D → Bool
  | .bl _ => true
  | _ => false
theorem v_isStr {d : D} (h : d.isExn = false) : gIs "str" d = some (.bl d.isStr) := by
  unfold gIs
  rw [h, if_neg Bool.false_ne_true]
  cases d with
  | non => exact congrArg (Option.map D.bl) (show L2.kitB "NoneType" "str" = some false by decide +kernel)
  | bl _ => exact congrArg (Option.map D.bl) (show L2.kitB "bool" "str" = some false by decide +kernel)
  | int _ => exact congrArg (Option.map D.bl) (show L2.kitB "int" "str" = some false by decide +kernel)
  | str _ => exact congrArg (Option.map D.bl) (show L2.kitB "str" "str" = some true by decide +kernel)
  | tup _ => exact congrArg (Option.map D.bl) (show L2.kitB "tuple" "str" = some false by decide +kernel)
  | lst _ _ => exact congrArg (Option.map D.bl) (show L2.kitB "list" "str" = some false by decide +kernel)
  | dct _ _ => exact congrArg (Option.map D.bl) (show L2.kitB "dict" "str" = some false by decide +kernel)
  | exn _ => cases h
theorem v_isTup {d : D} (h : d.isExn = false) : gIs "tuple" d = some (.bl d.isTup) := by
  unfold gIs
  rw [h, if_neg Bool.false_ne_true]
  cases d with
  | non => exact congrArg (Option.map D.bl) (show L2.kitB "NoneType" "tuple" = some false by decide +kernel)
  | bl _ => exact congrArg (Option.map D.bl) (show L2.kitB "bool" "tuple" = some false by decide +kernel)
  | int _ => exact congrArg (Option.map D.bl) (show L2.kitB "int" "tuple" = some false by decide +kernel)
  | str _ => exact congrArg (Option.map D.bl) (show L2.kitB "str" "tuple" = some false by decide +kernel)
  | tup _ => exact congrArg (Option.map D.bl) (show L2.kitB "tuple" "tuple" = some true by decide +kernel)
  | lst _ _ => exact congrArg (Option.map D.bl) (show L2.kitB "list" "tuple" = some false by decide +kernel)
  | dct _ _ => exact congrArg (Option.map D.bl) (show L2.kitB "dict" "tuple" = some false by decide +kernel)
  | exn _ => cases h
theorem v_isLst {d : D} (h : d.isExn = false) : gIs "list" d = some (.bl d.isLst) := by
  unfold gIs
  rw [h, if_neg Bool.false_ne_true]
  cases d with
  | non => exact congrArg (Option.map D.bl) (show L2.kitB "NoneType" "list" = some false by decide +kernel)
  | bl _ => exact congrArg (Option.map D.bl) (show L2.kitB "bool" "list" = some false by decide +kernel)
  | int _ => exact congrArg (Option.map D.bl) (show L2.kitB "int" "list" = some false by decide +kernel)
  | str _ => exact congrArg (Option.map D.bl) (show L2.kitB "str" "list" = some false by decide +kernel)
  | tup _ => exact congrArg (Option.map D.bl) (show L2.kitB "tuple" "list" = some false by decide +kernel)
  | lst _ _ => exact congrArg (Option.map D.bl) (show L2.kitB "list" "list" = some true by decide +kernel)
  | dct _ _ => exact congrArg (Option.map D.bl) (show L2.kitB "dict" "list" = some false by decide +kernel)
  | exn _ => cases h
theorem v_isBl {d : D} (h : d.isExn = false) : gIs "bool" d = some (.bl d.isBl) := by
  unfold gIs
  rw [h, if_neg Bool.false_ne_true]
  cases d with
  | non => exact congrArg (Option.map D.bl) (show L2.kitB "NoneType" "bool" = some false by decide +kernel)
  | bl _ => exact congrArg (Option.map D.bl) (show L2.kitB "bool" "bool" = some true by decide +kernel)
  | int _ => exact congrArg (Option.map D.bl) (show L2.kitB "int" "bool" = some false by decide +kernel)
  | str _ => exact congrArg (Option.map D.bl) (show L2.kitB "str" "bool" = some false by decide +kernel)
  | tup _ => exact congrArg (Option.map D.bl) (show L2.kitB "tuple" "bool" = some false by decide +kernel)
  | lst _ _ => exact congrArg (Option.map D.bl) (show L2.kitB "list" "bool" = some false by decide +kernel)
  | dct _ _ => exact congrArg (Option.map D.bl) (show L2.kitB "dict" "bool" = some false by decide +kernel)
  | exn _ => cases h
def D.isInt : D → Bool
  | .int _ => true
  | .bl _ => true
  | _ => false
theorem v_isInt {d : D} (h : d.isExn = false) : gIs "int" d = some (.bl d.isInt) := by
  unfold gIs
  rw [h, if_neg Bool.false_ne_true]
  cases d with
  | non => exact congrArg (Option.map D.bl) (show L2.kitB "NoneType" "int" = some false by decide +kernel)
  | bl _ => exact congrArg (Option.map D.bl) (show L2.kitB "bool" "int" = some true by decide +kernel)
  | int _ => exact congrArg (Option.map D.bl) (show L2.kitB "int" "int" = some true by decide +kernel)
  | str _ => exact congrArg (Option.map D.bl) (show L2.kitB "str" "int" = some false by decide +kernel)
  | tup _ => exact congrArg (Option.map D.bl) (show L2.kitB "tuple" "int" = some false by decide +kernel)
  | lst _ _ => exact congrArg (Option.map D.bl) (show L2.kitB "list" "int" = some false by decide +kernel)
  | dct _ _ => exact congrArg (Option.map D.bl) (show L2.kitB "dict" "int" = some false by decide +kernel)
  | exn _ => cases h
def D.isDict : D → Bool
  | .dct _ _ => true
  | _ => false
theorem v_isDict {d : D} (h : d.isExn = false) : gIs "dict" d = some (.bl d.isDict) := by
  unfold gIs
  rw [h, if_neg Bool.false_ne_true]
  cases d with
  | non => exact congrArg (Option.map D.bl) (show L2.kitB "NoneType" "dict" = some false by decide +kernel)
  | bl _ => exact congrArg (Option.map D.bl) (show L2.kitB "bool" "dict" = some false by decide +kernel)
  | int _ => exact congrArg (Option.map D.bl) (show L2.kitB "int" "dict" = some false by decide +kernel)
  | str _ => exact congrArg (Option.map D.bl) (show L2.kitB "str" "dict" = some false by decide +kernel)
  | tup _ => exact congrArg (Option.map D.bl) (show L2.kitB "tuple" "dict" = some false by decide +kernel)
  | lst _ _ => exact congrArg (Option.map D.bl) (show L2.kitB "list" "dict" = some false by decide +kernel)
  | dct _ _ => exact congrArg (Option.map D.bl) (show L2.kitB "dict" "dict" = some true by decide +kernel)
  | exn _ => cases h
theorem exn_w {d : D} (h : isW d) : d.isExn = false := by cases d <;> first | rfl | exact h.elim
theorem tup_w {d : D} (h : isW d) : d.isTup = false := by cases d <;> first | rfl | exact h.elim
theorem szL : 100000 ≤ sizeLine := by rw [sizeLine_eq]; decide
theorem sz_lt {n : Nat} (h : n < 100000) : n < sizeLine := Nat.lt_of_lt_of_le h szL
theorem sz_le {n : Nat} (h : n ≤ 100000) : n ≤ sizeLine := Nat.le_trans h szL
end OL

namespace OL
open PySem PySem.Spec
theorem v_pow {i j : Int} (h : 0 ≤ j ∧ j ≤ 1000000 ∧ i.natAbs < 2 ^ 64) : OL.gPow (.int i) (.int j) = some (.int (i ^ j.toNat)) := if_pos h
theorem v_rep {x : Str} {k : Int} (h : 2 ≤ k ∧ k < 10000 ∧ x.length = 1) : OL.gMul (.str x) (.int k) = some (.str ⟨(List.replicate k.toNat x.cps.toList).flatten.toArray⟩) := if_pos h
theorem v_repL {xs : List D} {k : Int} (h : D.ownss xs = false ∧ 0 ≤ k ∧ k < 10000 ∧ xs.length < 1000) : OL.gMul (.lst true xs) (.int k) = some (.lst true (List.replicate k.toNat xs).flatten) := if_pos h
theorem v_pow60 : OL.gPow (.int 10) (.int 60) = some (.int 1000000000000000000000000000000000000000000000000000000000000) :=
  (v_pow ⟨by decide, by decide, by decide⟩).trans (congrArg (fun z => some (D.int z)) (by decide))
/-- 'x' * 200 -/
def x200 : Str := ⟨(List.replicate 200 (Str.ofString "x").cps.toList).flatten.toArray⟩
theorem v_x200 : OL.gMul (.str (Str.ofString "x")) (.int 200) = some (.str x200) := v_rep ⟨by decide, by decide, by decide⟩
theorem ok_x200 : PyData.strOk x200 = true := by decide +kernel
/-- the worths that are drawn from -/
def someW : List D := [.non, .int 0, .int 1, .int 2, .int (-1), .str (Str.ofString "a"), .str (Str.ofString "b"), .str (Str.ofString "ab"), .str (Str.ofString ""), .int 1000000000000000000000000000000000000000000000000000000000000, .int (-1000000000000000000000000000000000000000000000000000000000000), .str (Str.ofString "1"), .str x200]
theorem someW_w : ∀ d ∈ someW, isW d := by
  intro d hd
  simp only [someW, List.mem_cons, List.not_mem_nil, or_false] at hd
  rcases hd with rfl | rfl | rfl | rfl | rfl | rfl | rfl | rfl | rfl | rfl | rfl | rfl | rfl
  all_goals first | trivial | (show PyData.strOk _ = true; decide +kernel)
theorem someW_at {i : Nat} (h : i < 13) : ∃ d, someW[i]? = some d ∧ isW d := by
  have h' : i < someW.length := h
  exact ⟨someW[i], List.getElem?_eq_getElem h', someW_w _ (List.getElem_mem h')⟩
/-- what a table is -/
structure Tab (most : Nat) (hs : List Str) (rs : List (List D)) : Prop where
  ne : 0 < hs.length
  le : hs.length ≤ 4
  nd : hs.Nodup
  hin : ∀ h ∈ hs, h ∈ [Str.ofString "b", Str.ofString "a", Str.ofString "ab", Str.ofString "c"]
  len : ∀ r ∈ rs, r.length = hs.length
  w : ∀ r ∈ rs, ∀ d ∈ r, isW d
  few : rs.length ≤ most
def tabD (hs : List Str) (rs : List (List D)) : D := .tup [.tup (hs.map .str), .tup (rs.map .tup)]
theorem ok_head {h : Str} (k : h ∈ [Str.ofString "b", Str.ofString "a", Str.ofString "ab", Str.ofString "c"]) : PyData.strOk h = true := by
  simp only [List.mem_cons, List.not_mem_nil, or_false] at k
  rcases k with rfl | rfl | rfl | rfl <;> decide +kernel
theorem strs_map : ∀ hs : List Str, D.strs (hs.map .str) = some hs
  | [] => rfl
  | h :: hs => by
    show (D.strs (hs.map .str)).map (h :: ·) = _
    rw [strs_map hs]; rfl
theorem own_strs (hs : List Str) : D.ownss (hs.map .str) = false := owns_all fun d hd => by
  obtain ⟨h, _, rfl⟩ := List.mem_map.mp hd
  rfl
theorem own_rows {most : Nat} {hs : List Str} {rs : List (List D)} (t : Tab most hs rs) : D.ownss (rs.map .tup) = false := owns_all fun d hd => by
  obtain ⟨r, hr, rfl⟩ := List.mem_map.mp hd
  exact owns_ws (t.w r hr)
theorem own_tab {most : Nat} {hs : List Str} {rs : List (List D)} (t : Tab most hs rs) : (tabD hs rs).owns = false := by
  show (D.ownss (hs.map .str) || (D.ownss (rs.map .tup) || false)) = false
  rw [own_strs, own_rows t]; rfl
theorem frz_tab {most : Nat} {hs : List Str} {rs : List (List D)} (t : Tab most hs rs) : (tabD hs rs).frz = tabD hs rs := frz_none _ (own_tab t)
theorem own_ints (ns : List Int) : D.ownss (ns.map .int) = false := owns_all fun d hd => by
  obtain ⟨h, _, rfl⟩ := List.mem_map.mp hd
  rfl
theorem ints_map : ∀ ns : List Int, D.ints (ns.map .int) = some ns
  | [] => rfl
  | n :: ns => by
    show (D.ints (ns.map .int)).map (n :: ·) = _
    rw [ints_map ns]; rfl
theorem cutL_map {α β : Type} (f : α → β) (xs : List α) (l h : Option Int) : cutL (xs.map f) l h = (cutL xs l h).map f := by
  unfold cutL
  rw [List.length_map, List.map_take, List.map_drop]
theorem cutL_nat {α : Type} (xs : List α) (a b : Nat) (h : a ≤ b) (k : b ≤ xs.length) : cutL xs (some (a : Int)) (some (b : Int)) = (xs.drop a).take (b - a) := by
  unfold cutL
  rw [HT.sIx_nat, HT.sIx_nat, Nat.min_eq_left k, Nat.min_eq_left (Nat.le_trans h k)]
theorem mem_cutL {α : Type} {xs : List α} {l h : Option Int} {x : α} (m : x ∈ cutL xs l h) : x ∈ xs := List.mem_of_mem_drop (List.mem_of_mem_take m)
theorem v_sumI {ns : List Int} {o : Bool} : OL.gSum [.lst o (ns.map .int)] = some (.int ns.sum) := by
  show (D.ints (ns.map .int)).map _ = _
  rw [ints_map]; rfl
/-- the heads that are drawn -/
def rotH (k : Nat) : List Str := [Str.ofString "b", Str.ofString "a", Str.ofString "ab", Str.ofString "c"].drop k ++ [Str.ofString "b", Str.ofString "a", Str.ofString "ab", Str.ofString "c"].take k
theorem rotH_ok {k w : Nat} (hk : k < 4) (hw : 1 ≤ w) (hw2 : w ≤ 4) : ((rotH k).take w).length = w ∧ ((rotH k).take w).Nodup ∧ ∀ h ∈ (rotH k).take w, h ∈ [Str.ofString "b", Str.ofString "a", Str.ofString "ab", Str.ofString "c"] := by
  have hl : (rotH k).length = 4 := by
    unfold rotH
    rw [List.length_append, List.length_drop, List.length_take]
    simp only [List.length_cons, List.length_nil]
    omega
  have nd : (rotH k).Nodup := by
    rcases (show k = 0 ∨ k = 1 ∨ k = 2 ∨ k = 3 by omega) with rfl | rfl | rfl | rfl <;> decide +kernel
  refine ⟨by rw [List.length_take, hl]; omega, nd.sublist (List.take_sublist _ _), fun h m => ?_⟩
  have m := List.mem_of_mem_take m
  unfold rotH at m
  rcases List.mem_append.mp m with m | m
  · exact List.mem_of_mem_drop m
  · exact List.mem_of_mem_take m
end OL
namespace OL
open PySem PySem.Spec
theorem pys_strs : ∀ hs : List Str, D.pys (hs.map .str) = some (hs.map .str)
  | [] => rfl
  | h :: hs => by
    show (match D.py (.str h), D.pys (hs.map .str) with | some p, some ps => some (p :: ps) | _, _ => none) = _
    rw [pys_strs hs]; rfl
theorem idxS_cons (y : Str) (ys : List Str) (z : Str) : idxS (y :: ys) z = if y = z then some 0 else (idxS ys z).map (· + 1) := rfl
theorem idxS_any : ∀ (hs : List Str) (h : Str), (hs.map PyData.str).any (fun z => PyData.eqv z (.str h)) = decide (idxS hs h ≠ none)
  | [], h => by simp [idxS]
  | x :: xs, h => by
    rw [List.map_cons, List.any_cons, idxS_any xs h, idxS_cons]
    by_cases e : x = h
    · subst e
      simp [PyData.eqv]
    · have : (x == h) = false := by simpa using e
      simp only [PyData.eqv, this, if_neg e, Bool.false_or]
      cases idxS xs h <;> simp
theorem pin_strs {hs : List Str} {h : Str} (k : ∀ x ∈ hs, PyData.strOk x = true) (k2 : PyData.strOk h = true) : D.pin (.str h) (hs.map .str) = some (decide (idxS hs h ≠ none)) := by
  have d := dats_of (n := 0) (ds := hs.map .str) fun d hd => by
    obtain ⟨x, hx, rfl⟩ := List.mem_map.mp hd
    exact dat_w (d := .str x) (k x hx)
  obtain ⟨ps, h1, h2, h3⟩ := d
  unfold D.pin
  rw [pys_strs] at h1 ⊢
  cases h1
  have s1 : SeqAt.shaped (.str h) = true := by unfold SeqAt.shaped; simp [PyData.canLay0, k2, PyData.depth]
  have s2 : SeqAt.shaped (.list (hs.map .str)) = true := by unfold SeqAt.shaped; simp only [PyData.canLay0, h2, PyData.depth, Bool.true_and]; exact decide_eq_true (by omega)
  refine (if_pos ⟨s1, s2⟩).trans ?_
  rw [idxS_any]
theorem notin_strs {hs : List Str} {h : Str} (k : ∀ x ∈ hs, PyData.strOk x = true) (k2 : PyData.strOk h = true) : gNotInD (.str h) (.tup (hs.map .str)) = some (.bl (decide (idxS hs h = none))) := by
  show (D.pin (.str h) (hs.map .str)).map _ = _
  rw [pin_strs k k2]
  cases idxS hs h <;> rfl
end OL
namespace OL
open PySem PySem.Spec
theorem eq_str {x y : Str} {b : Bool} (hx : PyData.strOk x = true) (hy : PyData.strOk y = true) (h : decide (x = y) = b) : gEq (.str x) (.str y) = some (.bl b) := by
  rw [eq_w (x := .str x) (y := .str y) hx hy, ← h]; rfl
theorem eq_tup_int {n : Nat} {ds : List D} {i : Int} (h : ∀ d ∈ ds, d.dat n) (hn : n + 1 ≤ 64 := by decide) : gEq (.tup ds) (.int i) = some (.bl false) := by
  obtain ⟨p, q, h1, h2, h3⟩ := peq_dat (dat_tup h) ((dat_w (d := .int i) trivial).mono (Nat.zero_le _)) hn
  unfold gEq
  rw [h3]
  cases h2
  have h1' : (D.pys ds).map PyData.tuple = some p := h1
  cases e : D.pys ds with
  | none => rw [e] at h1'; cases h1'
  | some ps =>
    rw [e] at h1'
    cases h1'
    simp [PyData.eqv]
/-- worths in order: numbers among themselves, texts among themselves -/
def lessW : D → D → Bool
  | .int i, .int j => decide (i < j)
  | .str x, .str y => decide (x.cps.toList < y.cps.toList)
  | _, _ => false
theorem non_int {i : Int} : D.isNon (.int i) = false := by rfl
theorem non_str {x : Str} : D.isNon (.str x) = false := by rfl
theorem non_non : D.isNon .non = true := by rfl
theorem isStr_int {i : Int} : D.isStr (.int i) = false := by rfl
theorem isStr_str {x : Str} : D.isStr (.str x) = true := by rfl
theorem isStr_non : D.isStr .non = false := by rfl
theorem v_int_bl {b : Bool} : OL.gInt [.bl b] = some (.int (if b = true then 1 else 0)) := by rfl
/-- a worth that is none of None -/
theorem w_cases {x : D} (h : isW x) (n : x.isNon = false) : (∃ i, x = .int i) ∨ ∃ s, x = .str s ∧ PyData.strOk s = true := by
  cases x with
  | non => cases n
  | int i => exact .inl ⟨i, rfl⟩
  | str s => exact .inr ⟨s, rfl, h⟩
  | _ => exact h.elim
end OL
namespace OL
open PySem PySem.Spec
theorem enumD_mem : ∀ {ds : List D} {k : Nat} {d : D}, d ∈ enumD k ds → ∃ (i : Nat) (w : D), d = .tup [.int (i : Nat), w] ∧ w ∈ ds
  | [], k, d, h => nomatch h
  | w :: ds, k, d, h => by
    rcases List.mem_cons.mp h with rfl | h
    · exact ⟨k, w, rfl, List.mem_cons_self⟩
    · obtain ⟨i, w', h1, h2⟩ := enumD_mem h
      exact ⟨i, w', h1, List.mem_cons_of_mem _ h2⟩
/-- the places of a column whose worth is so -/
def idxW (p : D → Bool) : Nat → List D → List D
  | _, [] => []
  | k, w :: ws => if p w = true then .int (k : Nat) :: idxW p (k + 1) ws else idxW p (k + 1) ws
theorem idxW_len (p : D → Bool) : ∀ (k : Nat) (ws : List D), (idxW p k ws).length ≤ ws.length
  | _, [] => Nat.le_refl _
  | k, w :: ws => by
    unfold idxW
    have := idxW_len p (k + 1) ws
    split
    · rw [List.length_cons, List.length_cons]; omega
    · rw [List.length_cons]; omega
theorem idxW_w (p : D → Bool) : ∀ (k : Nat) (ws : List D), ∀ d ∈ idxW p k ws, isW d
  | _, [], _, h => nomatch h
  | k, w :: ws, d, h => by
    unfold idxW at h
    split at h
    · rcases List.mem_cons.mp h with rfl | h
      · trivial
      · exact idxW_w p (k + 1) ws d h
    · exact idxW_w p (k + 1) ws d h
def fstD : D → D
  | .tup (i :: _) => i
  | d => d
def sndD : D → D
  | .tup [_, w] => w
  | d => d
theorem idxW_filter (p : D → Bool) : ∀ (k : Nat) (ws : List D), ((enumD k ws).filter fun d => p (sndD d)).map fstD = idxW p k ws
  | _, [] => rfl
  | k, w :: ws => by
    unfold idxW enumD
    rw [List.filter_cons]
    by_cases e : p w = true
    · rw [if_pos e, if_pos (show p (sndD (.tup [.int (k : Nat), w])) = true from e), List.map_cons, idxW_filter p (k + 1) ws]
      rfl
    · rw [if_neg e, if_neg (show ¬ p (sndD (.tup [.int (k : Nat), w])) = true from e), idxW_filter p (k + 1) ws]
def natsF : Nat → Nat → List D
  | _, 0 => []
  | k, m + 1 => .int (k : Nat) :: natsF (k + 1) m
theorem natsF_eq : ∀ (m k : Nat), (List.range m).map (fun i => D.int ((k + i : Nat) : Int)) = natsF k m
  | 0, k => rfl
  | m + 1, k => by
    rw [List.range_succ_eq_map, List.map_cons, List.map_map]
    unfold natsF
    rw [← natsF_eq m (k + 1)]
    have e : (fun i : Nat => D.int ((k + i : Nat) : Int)) ∘ Nat.succ = fun i => D.int ((k + 1 + i : Nat) : Int) := by
      funext i
      show D.int _ = D.int _
      rw [show k + Nat.succ i = k + 1 + i by omega]
    rw [e]
    rfl
theorem natsD_F (n : Nat) : natsD n = natsF 0 n := by
  rw [← natsF_eq n 0]
  refine List.map_congr_left fun i _ => ?_
  rw [Nat.zero_add]
end OL
namespace OL
open PySem PySem.Spec
/-- the pairs of one with what it meets -/
def pr2 (c : D → D → Bool) (k : Nat) (x : D) : Nat → List D → List D
  | _, [] => []
  | j, y :: ys => if c x y = true then .tup [.int (k : Nat), .int (j : Nat)] :: pr2 c k x (j + 1) ys else pr2 c k x (j + 1) ys
def pr1 (c : D → D → Bool) (ys : List D) : Nat → List D → List D
  | _, [] => []
  | k, x :: xs => pr2 c k x 0 ys ++ pr1 c ys (k + 1) xs
theorem pr2_len (c : D → D → Bool) (k : Nat) (x : D) : ∀ (j : Nat) (ys : List D), (pr2 c k x j ys).length ≤ ys.length
  | _, [] => Nat.le_refl _
  | j, y :: ys => by
    unfold pr2
    have := pr2_len c k x (j + 1) ys
    split
    · rw [List.length_cons, List.length_cons]; omega
    · rw [List.length_cons]; omega
theorem pr1_len (c : D → D → Bool) (ys : List D) : ∀ (k : Nat) (xs : List D), (pr1 c ys k xs).length ≤ xs.length * ys.length
  | _, [] => by simp [pr1]
  | k, x :: xs => by
    unfold pr1
    have h1 := pr2_len c k x 0 ys
    have h2 := pr1_len c ys (k + 1) xs
    rw [List.length_append, List.length_cons, Nat.add_mul, Nat.one_mul]
    omega
theorem pr2_dat (c : D → D → Bool) (k : Nat) (x : D) : ∀ (j : Nat) (ys : List D), ∀ d ∈ pr2 c k x j ys, d.dat 1 ∧ d.owns = false
  | _, [], _, h => nomatch h
  | j, y :: ys, d, h => by
    unfold pr2 at h
    have one : (D.tup [.int (k : Nat), .int (j : Nat)]).dat 1 ∧ (D.tup [.int (k : Nat), .int (j : Nat)]).owns = false := ⟨dat_tup fun z hz => by
      simp only [List.mem_cons, List.not_mem_nil, or_false] at hz
      rcases hz with rfl | rfl <;> exact dat_w trivial, rfl⟩
    split at h
    · rcases List.mem_cons.mp h with rfl | h
      · exact one
      · exact pr2_dat c k x (j + 1) ys d h
    · exact pr2_dat c k x (j + 1) ys d h
theorem pr1_dat (c : D → D → Bool) (ys : List D) : ∀ (k : Nat) (xs : List D), ∀ d ∈ pr1 c ys k xs, d.dat 1 ∧ d.owns = false
  | _, [], _, h => nomatch h
  | k, x :: xs, d, h => by
    unfold pr1 at h
    rcases List.mem_append.mp h with h | h
    · exact pr2_dat c k x 0 ys d h
    · exact pr1_dat c ys (k + 1) xs d h
/-- None is met by nothing -/
def meet (x y : D) : Bool := !x.isNon && weq x y
theorem meet_non {x y : D} (h : y.isNon = true) : meet x y = false := by
  cases y <;> first | cases h; done | (cases x <;> rfl)
end OL
namespace OL
open PySem PySem.Spec
theorem clean_w {d : D} (h : isW d) : d.clean = true := by cases d <;> first | rfl | exact h.elim
theorem cleans_all : ∀ {ds : List D}, (∀ d ∈ ds, d.clean = true) → D.cleans ds = true
  | [], _ => rfl
  | d :: ds, h => by
    show (d.clean && D.cleans ds) = true
    rw [h d List.mem_cons_self, cleans_all fun x hx => h x (List.mem_cons_of_mem _ hx)]
    rfl
theorem cleans_ws {ds : List D} (h : ∀ d ∈ ds, isW d) : D.cleans ds = true := cleans_all fun d hd => clean_w (h d hd)
theorem pr2_clean (c : D → D → Bool) (k : Nat) (x : D) : ∀ (j : Nat) (ys : List D), ∀ d ∈ pr2 c k x j ys, d.clean = true
  | _, [], _, h => nomatch h
  | j, y :: ys, d, h => by
    unfold pr2 at h
    split at h
    · rcases List.mem_cons.mp h with rfl | h
      · rfl
      · exact pr2_clean c k x (j + 1) ys d h
    · exact pr2_clean c k x (j + 1) ys d h
theorem pr1_clean (c : D → D → Bool) (ys : List D) : ∀ (k : Nat) (xs : List D), ∀ d ∈ pr1 c ys k xs, d.clean = true
  | _, [], _, h => nomatch h
  | k, x :: xs, d, h => by
    unfold pr1 at h
    rcases List.mem_append.mp h with h | h
    · exact pr2_clean c k x 0 ys d h
    · exact pr1_clean c ys (k + 1) xs d h
theorem idx_some : ∀ {hs : List Str} {h : Str}, h ∈ hs → ∃ j, idxS hs h = some j
  | x :: xs, h, m => by
    rw [idxS_cons]
    by_cases e : x = h
    · exact ⟨0, if_pos e⟩
    · rcases List.mem_cons.mp m with rfl | m
      · exact absurd rfl e
      · obtain ⟨j, hj⟩ := idx_some m
        exact ⟨j + 1, by rw [if_neg e, hj]; rfl⟩
theorem idx_nodup : ∀ {hs : List Str} {j : Nat} {h : Str}, hs.Nodup → hs[j]? = some h → idxS hs h = some j := by
  intro hs j h nd e
  obtain ⟨i, hi⟩ := idx_some (List.mem_of_getElem? e)
  rw [hi]
  have h1 := (idxS_at hi).1
  have l1 := (List.getElem?_eq_some_iff.mp h1).1
  have l2 := (List.getElem?_eq_some_iff.mp e).1
  have : i = j := (List.getElem?_inj l1 nd).mp (h1.trans e.symm)
  rw [this]
theorem not_head {x : Str} {most : Nat} {hs : List Str} {rs : List (List D)} (t : Tab most hs rs) (h : (x ∈ [Str.ofString "b", Str.ofString "a", Str.ofString "ab", Str.ofString "c"]) → False) : x ∉ hs := fun m => h (t.hin x m)
end OL

namespace Gk72
open PySem PySem.Spec L2 OL
def top (i : Nat) : Stmt := PySem.Challenge.pw_onelook_k72_rows_that_fit.main.body.getD i (.Pass ⟨0, 0, 0, 0⟩)
structure Txt (K : PySem.W.Frag) (mg : Str → Option Value) (ca fa : Nat → Addr) (fd : Nat → FuncData) : Prop where
  f_fault : Fun K "fault" "fault" (top 6) (fa 0) (fd 0)
  g_fault : mg "fault" = some (.ref (fa 0))
  k_fault : PySem.W.keepIn K (.ref (fa 0)) = true
  b_fault : Binds K (fd 0) ["word"] []
  f_is_fault : Fun K "is_fault" "is_fault" (top 7) (fa 1) (fd 1)
  g_is_fault : mg "is_fault" = some (.ref (fa 1))
  k_is_fault : PySem.W.keepIn K (.ref (fa 1)) = true
  b_is_fault : Binds K (fd 1) ["worth"] []
  f_is_text : Fun K "is_text" "is_text" (top 8) (fa 2) (fd 2)
  g_is_text : mg "is_text" = some (.ref (fa 2))
  k_is_text : PySem.W.keepIn K (.ref (fa 2)) = true
  b_is_text : Binds K (fd 2) ["worth"] []
  f_held_number : Fun K "held_number" "held_number" (top 9) (fa 3) (fd 3)
  g_held_number : mg "held_number" = some (.ref (fa 3))
  k_held_number : PySem.W.keepIn K (.ref (fa 3)) = true
  b_held_number : Binds K (fd 3) ["number"] []
  f_as_number : Fun K "as_number" "as_number" (top 10) (fa 4) (fd 4)
  g_as_number : mg "as_number" = some (.ref (fa 4))
  k_as_number : PySem.W.keepIn K (.ref (fa 4)) = true
  b_as_number : Binds K (fd 4) ["worth"] []
  f_as_text : Fun K "as_text" "as_text" (top 11) (fa 5) (fd 5)
  g_as_text : mg "as_text" = some (.ref (fa 5))
  k_as_text : PySem.W.keepIn K (.ref (fa 5)) = true
  b_as_text : Binds K (fd 5) ["worth"] []
  f_divided : Fun K "divided" "divided" (top 12) (fa 6) (fd 6)
  g_divided : mg "divided" = some (.ref (fa 6))
  k_divided : PySem.W.keepIn K (.ref (fa 6)) = true
  b_divided : Binds K (fd 6) ["op", "one", "other"] []
  f_reckoned : Fun K "reckoned" "reckoned" (top 13) (fa 7) (fd 7)
  g_reckoned : mg "reckoned" = some (.ref (fa 7))
  k_reckoned : PySem.W.keepIn K (.ref (fa 7)) = true
  b_reckoned : Binds K (fd 7) ["op", "one", "other"] []
  f_joined : Fun K "joined" "joined" (top 14) (fa 8) (fd 8)
  g_joined : mg "joined" = some (.ref (fa 8))
  k_joined : PySem.W.keepIn K (.ref (fa 8)) = true
  b_joined : Binds K (fd 8) ["one", "other"] []
  f_same_worth : Fun K "same_worth" "same_worth" (top 15) (fa 9) (fd 9)
  g_same_worth : mg "same_worth" = some (.ref (fa 9))
  k_same_worth : PySem.W.keepIn K (.ref (fa 9)) = true
  b_same_worth : Binds K (fd 9) ["one", "other"] []
  f_ahead_of : Fun K "ahead_of" "ahead_of" (top 16) (fa 10) (fd 10)
  g_ahead_of : mg "ahead_of" = some (.ref (fa 10))
  k_ahead_of : PySem.W.keepIn K (.ref (fa 10)) = true
  b_ahead_of : Binds K (fd 10) ["one", "other"] []
  f_paired : Fun K "paired" "paired" (top 17) (fa 11) (fd 11)
  g_paired : mg "paired" = some (.ref (fa 11))
  k_paired : PySem.W.keepIn K (.ref (fa 11)) = true
  b_paired : Binds K (fd 11) ["op", "one", "other"] []
  f_column_at : Fun K "column_at" "column_at" (top 19) (fa 12) (fd 12)
  g_column_at : mg "column_at" = some (.ref (fa 12))
  k_column_at : PySem.W.keepIn K (.ref (fa 12)) = true
  b_column_at : Binds K (fd 12) ["table", "head"] []
  f_column_of : Fun K "column_of" "column_of" (top 20) (fa 13) (fd 13)
  g_column_of : mg "column_of" = some (.ref (fa 13))
  k_column_of : PySem.W.keepIn K (.ref (fa 13)) = true
  b_column_of : Binds K (fd 13) ["table", "head"] []
  f_fits : Fun K "fits" "fits" (top 21) (fa 14) (fd 14)
  g_fits : mg "fits" = some (.ref (fa 14))
  k_fits : PySem.W.keepIn K (.ref (fa 14)) = true
  b_fits : Binds K (fd 14) ["worth", "op", "key"] []
  f_fitting : Fun K "fitting" "fitting" (top 22) (fa 15) (fd 15)
  g_fitting : mg "fitting" = some (.ref (fa 15))
  k_fitting : PySem.W.keepIn K (.ref (fa 15)) = true
  b_fitting : Binds K (fd 15) ["table", "head", "op", "key"] []
  f_paired_rows : Fun K "paired_rows" "paired_rows" (top 24) (fa 16) (fd 16)
  g_paired_rows : mg "paired_rows" = some (.ref (fa 16))
  k_paired_rows : PySem.W.keepIn K (.ref (fa 16)) = true
  b_paired_rows : Binds K (fd 16) ["table", "head", "further", "other"] []
  f__law_mix : Fun K "_law_mix" "_law_mix" (top 26) (fa 17) (fd 17)
  g__law_mix : mg "_law_mix" = some (.ref (fa 17))
  k__law_mix : PySem.W.keepIn K (.ref (fa 17)) = true
  b__law_mix : Binds K (fd 17) ["cell", "k"] []
  f__law_digits : Fun K "_law_digits" "_law_digits" (top 27) (fa 18) (fd 18)
  g__law_digits : mg "_law_digits" = some (.ref (fa 18))
  k__law_digits : PySem.W.keepIn K (.ref (fa 18)) = true
  b__law_digits : Binds K (fd 18) ["cell", "size", "many"] []
  f__law_worths : Fun K "_law_worths" "_law_worths" (top 28) (fa 19) (fd 19)
  g__law_worths : mg "_law_worths" = some (.ref (fa 19))
  k__law_worths : PySem.W.keepIn K (.ref (fa 19)) = true
  b__law_worths : Binds K (fd 19) ["cell", "many"] []
  f__law_table : Fun K "_law_table" "_law_table" (top 29) (fa 20) (fd 20)
  g__law_table : mg "_law_table" = some (.ref (fa 20))
  k__law_table : PySem.W.keepIn K (.ref (fa 20)) = true
  b__law_table : Binds K (fd 20) ["script", "at", "rows_most"] []
  f__law_less : Fun K "_law_less" "_law_less" (top 30) (fa 21) (fd 21)
  g__law_less : mg "_law_less" = some (.ref (fa 21))
  k__law_less : PySem.W.keepIn K (.ref (fa 21)) = true
  b__law_less : Binds K (fd 21) ["one", "other"] []
  f__law_due : Fun K "_law_due" "_law_due" (top 31) (fa 22) (fd 22)
  g__law_due : mg "_law_due" = some (.ref (fa 22))
  k__law_due : PySem.W.keepIn K (.ref (fa 22)) = true
  b__law_due : Binds K (fd 22) ["column", "op", "key"] []
  f__law_refused : Fun K "_law_refused" "_law_refused" (top 32) (fa 23) (fd 23)
  g__law_refused : mg "_law_refused" = some (.ref (fa 23))
  k__law_refused : PySem.W.keepIn K (.ref (fa 23)) = true
  b__law_refused : Binds K (fd 23) ["way", "table", "head", "further", "other"] []
  f__law_pairs : Fun K "_law_pairs" "_law_pairs" (top 33) (fa 24) (fd 24)
  g__law_pairs : mg "_law_pairs" = some (.ref (fa 24))
  k__law_pairs : PySem.W.keepIn K (.ref (fa 24)) = true
  b__law_pairs : Binds K (fd 24) ["mine", "yours"] []
  f__law_paired : Fun K "_law_paired" "_law_paired" (top 34) (fa 25) (fd 25)
  g__law_paired : mg "_law_paired" = some (.ref (fa 25))
  k__law_paired : PySem.W.keepIn K (.ref (fa 25)) = true
  b__law_paired : Binds K (fd 25) ["table", "further"] []
  f_law : Fun K "law" "law" (top 35) (fa 26) (fd 26)
  g_law : mg "law" = some (.ref (fa 26))
  k_law : PySem.W.keepIn K (.ref (fa 26)) = true
  b_law : Binds K (fd 26) ["script"] []
  o_SheetError : ClsOk K mg "SheetError" (ca 0)
  z_SheetError : PySem.W.subIn K (.type "NoneType") (.ref (ca 0)) = some false
  o_NoColumn : ClsOk K mg "NoColumn" (ca 1)
  z_NoColumn : PySem.W.subIn K (.type "NoneType") (.ref (ca 1)) = some false
  s_SheetError_SheetError : PySem.W.subIn K (.ref (ca 0)) (.ref (ca 0)) = some true
  s_SheetError_NoColumn : PySem.W.subIn K (.ref (ca 0)) (.ref (ca 1)) = some false
  s_NoColumn_SheetError : PySem.W.subIn K (.ref (ca 1)) (.ref (ca 0)) = some true
  s_NoColumn_NoColumn : PySem.W.subIn K (.ref (ca 1)) (.ref (ca 1)) = some true
  n_abs : mg "abs" = none
  n_enumerate : mg "enumerate" = none
  n_int : mg "int" = none
  n_isinstance : mg "isinstance" = none
  n_len : mg "len" = none
  n_list : mg "list" = none
  n_range : mg "range" = none
  n_str : mg "str" = none
  n_sum : mg "sum" = none
  n_tuple : mg "tuple" = none
  v_MOST_SIGNS : ∃ u, mg "MOST_SIGNS" = some u ∧ RelV (V.int (200)) u
theorem b_abs : bootBuiltins "abs" = some (.builtin "abs") := by decide +kernel
theorem b_int : bootBuiltins "int" = some (.type "int") := by decide +kernel
theorem b_isinstance : bootBuiltins "isinstance" = some (.builtin "isinstance") := by decide +kernel
theorem b_len : bootBuiltins "len" = some (.builtin "len") := by decide +kernel
theorem b_list : bootBuiltins "list" = some (.type "list") := by decide +kernel
theorem b_str : bootBuiltins "str" = some (.type "str") := by decide +kernel
theorem b_sum : bootBuiltins "sum" = some (.builtin "sum") := by decide +kernel
theorem b_tuple : bootBuiltins "tuple" = some (.type "tuple") := by decide +kernel
section
variable {P : Program} {w : World} {K : PySem.W.Frag} {mg : Str → Option Value} {base : Heap} {ca fa : Nat → Addr} {fd : Nat → FuncData}
/-- fault: slots 0 word, -/
noncomputable def r_fault (K : PySem.W.Frag) (ca : Nat → Addr) : SS := s_ret (e_tup (es_cons (e_c (.str "fault")) (es_cons (e_mov 0) (es_nil))))
noncomputable def s_fault (K : PySem.W.Frag) (ca : Nat → Addr) : SF := fnS 1 1 (r_fault K ca)
theorem sc_fault : FnScope ["word"] ["word"] (defScope (top 6)) := ⟨rfl, rfl, rfl, by decide +kernel, rfl, by decide +kernel, by decide +kernel⟩
theorem ok_fault (T : Txt K mg ca fa fd) : FnOk P w K mg base (L2.CX P w) 1 (fa 0) (fd 0) ["word"] (spOf K ca (s_fault K ca)) := by
  refine fn_sound T.f_fault sc_fault rfl rfl fun cdv A outer s H E X hX hr => ?_
  have hu65 : X.A.units + 65 < cLine := by have := hr.un; omega
  have hu64 : X.A.units + 64 < cLine := by omega
  have hu1 : X.A.units + 1 < cLine := by omega
  have nd := sc_fault.nd
  subst hX
  exact xss_one (x_ret (x_tup (xs_cons (x_str) (xs_cons (x_mov 0 (pv 0)) (xs_nil)))))
/-- is_fault: slots 0 worth, -/
noncomputable def r_is_fault (K : PySem.W.Frag) (ca : Nat → Addr) : SS := s_ret (e_isi "tuple" (e_peek 0))
noncomputable def s_is_fault (K : PySem.W.Frag) (ca : Nat → Addr) : SF := fnS 1 1 (r_is_fault K ca)
theorem sc_is_fault : FnScope ["worth"] ["worth"] (defScope (top 7)) := ⟨rfl, rfl, rfl, by decide +kernel, rfl, by decide +kernel, by decide +kernel⟩
theorem ok_is_fault (T : Txt K mg ca fa fd) : FnOk P w K mg base (L2.CX P w) 1 (fa 1) (fd 1) ["worth"] (spOf K ca (s_is_fault K ca)) := by
  refine fn_sound T.f_is_fault sc_is_fault rfl rfl fun cdv A outer s H E X hX hr => ?_
  have hu65 : X.A.units + 65 < cLine := by have := hr.un; omega
  have hu64 : X.A.units + 64 < cLine := by omega
  have hu1 : X.A.units + 1 < cLine := by omega
  have nd := sc_is_fault.nd
  subst hX
  exact xss_one (x_ret (x_isi (by rfl) T.n_isinstance b_isinstance (by rfl) T.n_tuple b_tuple (x_peek 0 (pv 0))))
/-- is_text: slots 0 worth, -/
noncomputable def r_is_text (K : PySem.W.Frag) (ca : Nat → Addr) : SS := s_ret (e_isi "str" (e_peek 0))
noncomputable def s_is_text (K : PySem.W.Frag) (ca : Nat → Addr) : SF := fnS 1 1 (r_is_text K ca)
theorem sc_is_text : FnScope ["worth"] ["worth"] (defScope (top 8)) := ⟨rfl, rfl, rfl, by decide +kernel, rfl, by decide +kernel, by decide +kernel⟩
theorem ok_is_text (T : Txt K mg ca fa fd) : FnOk P w K mg base (L2.CX P w) 1 (fa 2) (fd 2) ["worth"] (spOf K ca (s_is_text K ca)) := by
  refine fn_sound T.f_is_text sc_is_text rfl rfl fun cdv A outer s H E X hX hr => ?_
  have hu65 : X.A.units + 65 < cLine := by have := hr.un; omega
  have hu64 : X.A.units + 64 < cLine := by omega
  have hu1 : X.A.units + 1 < cLine := by omega
  have nd := sc_is_text.nd
  subst hX
  exact xss_one (x_ret (x_isi (by rfl) T.n_isinstance b_isinstance (by rfl) T.n_str b_str (x_peek 0 (pv 0))))
/-- held_number: slots 0 number, -/
noncomputable def r_held_number (K : PySem.W.Frag) (ca : Nat → Addr) : SS := s_seq (s_dead) (s_ret (e_mov 0))
noncomputable def s_held_number (K : PySem.W.Frag) (ca : Nat → Addr) : SF := fnS 1 1 (r_held_number K ca)
theorem sc_held_number : FnScope ["number"] ["number"] (defScope (top 9)) := ⟨rfl, rfl, rfl, by decide +kernel, rfl, by decide +kernel, by decide +kernel⟩
theorem ok_held_number (T : Txt K mg ca fa fd) : FnOk P w K mg base (L2.CX P w) 1 (fa 3) (fd 3) ["number"] (spOf K ca (s_held_number K ca)) := by
  refine fn_sound T.f_held_number sc_held_number rfl rfl fun cdv A outer s H E X hX hr => ?_
  have hu65 : X.A.units + 65 < cLine := by have := hr.un; omega
  have hu64 : X.A.units + 64 < cLine := by omega
  have hu1 : X.A.units + 1 < cLine := by omega
  have nd := sc_held_number.nd
  subst hX
  exact xss_cons (x_dead) (xss_one (x_ret (x_mov 0 (pv 0))))
/-- as_number: slots 0 worth, -/
noncomputable def r_as_number (K : PySem.W.Frag) (ca : Nat → Addr) : SS := s_seq (s_if (t_of (e_op gIsN (e_peek 0) (e_c .non))) (s_ret (e_c (.int 0))) (s_nil)) (s_ret (e_mov 0))
noncomputable def s_as_number (K : PySem.W.Frag) (ca : Nat → Addr) : SF := fnS 1 1 (r_as_number K ca)
theorem sc_as_number : FnScope ["worth"] ["worth"] (defScope (top 10)) := ⟨rfl, rfl, rfl, by decide +kernel, rfl, by decide +kernel, by decide +kernel⟩
theorem ok_as_number (T : Txt K mg ca fa fd) : FnOk P w K mg base (L2.CX P w) 1 (fa 4) (fd 4) ["worth"] (spOf K ca (s_as_number K ca)) := by
  refine fn_sound T.f_as_number sc_as_number rfl rfl fun cdv A outer s H E X hX hr => ?_
  have hu65 : X.A.units + 65 < cLine := by have := hr.un; omega
  have hu64 : X.A.units + 64 < cLine := by omega
  have hu1 : X.A.units + 1 < cLine := by omega
  have nd := sc_as_number.nd
  subst hX
  exact xss_cons (x_ifS (x_tcmp qIsN (x_peek 0 (pv 0)) (x_o (x_non))) (xss_one (x_ret (x_int))) (xss_nil)) (xss_one (x_ret (x_mov 0 (pv 0))))
/-- as_text: slots 0 worth, -/
noncomputable def r_as_text (K : PySem.W.Frag) (ca : Nat → Addr) : SS := s_seq (s_if (t_of (e_op gIsN (e_peek 0) (e_c .non))) (s_ret (e_c (.str ""))) (s_nil)) (s_ret (e_callB gStr (es_cons (e_peek 0) (es_nil))))
noncomputable def s_as_text (K : PySem.W.Frag) (ca : Nat → Addr) : SF := fnS 1 1 (r_as_text K ca)
theorem sc_as_text : FnScope ["worth"] ["worth"] (defScope (top 11)) := ⟨rfl, rfl, rfl, by decide +kernel, rfl, by decide +kernel, by decide +kernel⟩
theorem ok_as_text (T : Txt K mg ca fa fd) : FnOk P w K mg base (L2.CX P w) 1 (fa 5) (fd 5) ["worth"] (spOf K ca (s_as_text K ca)) := by
  refine fn_sound T.f_as_text sc_as_text rfl rfl fun cdv A outer s H E X hX hr => ?_
  have hu65 : X.A.units + 65 < cLine := by have := hr.un; omega
  have hu64 : X.A.units + 64 < cLine := by omega
  have hu1 : X.A.units + 1 < cLine := by omega
  have nd := sc_as_text.nd
  subst hX
  exact xss_cons (x_ifS (x_tcmp qIsN (x_peek 0 (pv 0)) (x_o (x_non))) (xss_one (x_ret (x_str))) (xss_nil)) (xss_one (x_ret (x_callTy qStr (by rfl) T.n_str b_str (os_cons (x_peek 0 (pv 0)) (os_nil)))))
/-- divided: slots 0 op, 1 one, 2 other, -/
noncomputable def r_divided (K : PySem.W.Frag) (ca : Nat → Addr) : SS := s_seq (s_if (t_of (e_op gEq (e_peek 2) (e_c (.int 0)))) (s_ret (e_call (s_fault K ca) (es_cons (e_c (.str "nought")) (es_nil)))) (s_nil)) (s_seq (s_if (t_of (e_op gEq (e_peek 0) (e_c (.str "/")))) (s_ret (e_op gDiv (e_peek 1) (e_peek 2))) (s_nil)) (s_ret (e_op gMod (e_peek 1) (e_peek 2))))
noncomputable def s_divided (K : PySem.W.Frag) (ca : Nat → Addr) : SF := fnS 3 3 (r_divided K ca)
theorem sc_divided : FnScope ["op", "one", "other"] ["op", "one", "other"] (defScope (top 12)) := ⟨rfl, rfl, rfl, by decide +kernel, rfl, by decide +kernel, by decide +kernel⟩
theorem ok_divided (T : Txt K mg ca fa fd) : FnOk P w K mg base (L2.CX P w) 2 (fa 6) (fd 6) ["op", "one", "other"] (spOf K ca (s_divided K ca)) := by
  refine fn_sound T.f_divided sc_divided rfl rfl fun cdv A outer s H E X hX hr => ?_
  have hu65 : X.A.units + 65 < cLine := by have := hr.un; omega
  have hu64 : X.A.units + 64 < cLine := by omega
  have hu1 : X.A.units + 1 < cLine := by omega
  have nd := sc_divided.nd
  subst hX
  exact xss_cons (x_ifS (x_tcmp (qEq hu64) (x_peek 2 (pv 2)) (x_o (x_int))) (xss_one (x_ret (x_call (ok_fault T) (hr.mono (by decide)) (by rfl) T.g_fault T.k_fault T.b_fault (takes_of rfl rfl rfl rfl) (os_cons (x_o (x_str)) (os_nil))))) (xss_nil)) (xss_cons (x_ifS (x_tcmp (qEq hu64) (x_peek 0 (pv 0)) (x_o (x_str))) (xss_one (x_ret (x_op qDiv (x_peek 1 (pv 1)) (x_peek 2 (pv 2))))) (xss_nil)) (xss_one (x_ret (x_op qMod (x_peek 1 (pv 1)) (x_peek 2 (pv 2))))))
/-- reckoned: slots 0 op, 1 one, 2 other, -/
noncomputable def r_reckoned (K : PySem.W.Frag) (ca : Nat → Addr) : SS := s_seq (s_if (t_of (e_op gEq (e_peek 0) (e_c (.str "+")))) (s_ret (e_call (s_held_number K ca) (es_cons (e_op gAdd (e_peek 1) (e_peek 2)) (es_nil)))) (s_nil)) (s_seq (s_if (t_of (e_op gEq (e_peek 0) (e_c (.str "-")))) (s_ret (e_call (s_held_number K ca) (es_cons (e_op gSub (e_peek 1) (e_peek 2)) (es_nil)))) (s_nil)) (s_seq (s_if (t_of (e_op gEq (e_peek 0) (e_c (.str "*")))) (s_ret (e_call (s_held_number K ca) (es_cons (e_op gMul (e_peek 1) (e_peek 2)) (es_nil)))) (s_nil)) (s_ret (e_call (s_divided K ca) (es_cons (e_peek 0) (es_cons (e_peek 1) (es_cons (e_peek 2) (es_nil))))))))
noncomputable def s_reckoned (K : PySem.W.Frag) (ca : Nat → Addr) : SF := fnS 3 3 (r_reckoned K ca)
theorem sc_reckoned : FnScope ["op", "one", "other"] ["op", "one", "other"] (defScope (top 13)) := ⟨rfl, rfl, rfl, by decide +kernel, rfl, by decide +kernel, by decide +kernel⟩
theorem ok_reckoned (T : Txt K mg ca fa fd) : FnOk P w K mg base (L2.CX P w) 3 (fa 7) (fd 7) ["op", "one", "other"] (spOf K ca (s_reckoned K ca)) := by
  refine fn_sound T.f_reckoned sc_reckoned rfl rfl fun cdv A outer s H E X hX hr => ?_
  have hu65 : X.A.units + 65 < cLine := by have := hr.un; omega
  have hu64 : X.A.units + 64 < cLine := by omega
  have hu1 : X.A.units + 1 < cLine := by omega
  have nd := sc_reckoned.nd
  subst hX
  exact xss_cons (x_ifS (x_tcmp (qEq hu64) (x_peek 0 (pv 0)) (x_o (x_str))) (xss_one (x_ret (x_call (ok_held_number T) (hr.mono (by decide)) (by rfl) T.g_held_number T.k_held_number T.b_held_number (takes_of rfl rfl rfl rfl) (os_cons (x_o (x_op qAdd (x_peek 1 (pv 1)) (x_peek 2 (pv 2)))) (os_nil))))) (xss_nil)) (xss_cons (x_ifS (x_tcmp (qEq hu64) (x_peek 0 (pv 0)) (x_o (x_str))) (xss_one (x_ret (x_call (ok_held_number T) (hr.mono (by decide)) (by rfl) T.g_held_number T.k_held_number T.b_held_number (takes_of rfl rfl rfl rfl) (os_cons (x_o (x_op qSub (x_peek 1 (pv 1)) (x_peek 2 (pv 2)))) (os_nil))))) (xss_nil)) (xss_cons (x_ifS (x_tcmp (qEq hu64) (x_peek 0 (pv 0)) (x_o (x_str))) (xss_one (x_ret (x_call (ok_held_number T) (hr.mono (by decide)) (by rfl) T.g_held_number T.k_held_number T.b_held_number (takes_of rfl rfl rfl rfl) (os_cons (x_o (x_op qMul (x_peek 1 (pv 1)) (x_peek 2 (pv 2)))) (os_nil))))) (xss_nil)) (xss_one (x_ret (x_call (ok_divided T) (hr.mono (by decide)) (by rfl) T.g_divided T.k_divided T.b_divided (takes_of rfl rfl rfl rfl) (os_cons (x_peek 0 (pv 0)) (os_cons (x_peek 1 (pv 1)) (os_cons (x_peek 2 (pv 2)) (os_nil)))))))))
/-- joined: slots 0 one, 1 other, 2 text, -/
noncomputable def r_joined (K : PySem.W.Frag) (ca : Nat → Addr) : SS := s_seq (s_set 2 (e_op gAdd (e_call (s_as_text K ca) (es_cons (e_peek 0) (es_nil))) (e_call (s_as_text K ca) (es_cons (e_peek 1) (es_nil))))) (s_seq (s_if (t_of (e_op gGt (e_callB gLen (es_cons (e_peek 2) (es_nil))) (e_c (.int (200))))) (s_ret (e_call (s_fault K ca) (es_cons (e_c (.str "great")) (es_nil)))) (s_nil)) (s_ret (e_mov 2)))
noncomputable def s_joined (K : PySem.W.Frag) (ca : Nat → Addr) : SF := fnS 2 3 (r_joined K ca)
theorem sc_joined : FnScope ["one", "other", "text"] ["one", "other"] (defScope (top 14)) := ⟨rfl, rfl, rfl, by decide +kernel, rfl, by decide +kernel, by decide +kernel⟩
theorem ok_joined (T : Txt K mg ca fa fd) : FnOk P w K mg base (L2.CX P w) 2 (fa 8) (fd 8) ["one", "other"] (spOf K ca (s_joined K ca)) := by
  refine fn_sound T.f_joined sc_joined rfl rfl fun cdv A outer s H E X hX hr => ?_
  have hu65 : X.A.units + 65 < cLine := by have := hr.un; omega
  have hu64 : X.A.units + 64 < cLine := by omega
  have hu1 : X.A.units + 1 < cLine := by omega
  have nd := sc_joined.nd
  subst hX
  exact xss_cons (x_set (i := 2) nd rfl (.inl rfl) (x_op qAdd (x_o (x_call (ok_as_text T) (hr.mono (by decide)) (by rfl) T.g_as_text T.k_as_text T.b_as_text (takes_of rfl rfl rfl rfl) (os_cons (x_peek 0 (pv 0)) (os_nil)))) (x_o (x_call (ok_as_text T) (hr.mono (by decide)) (by rfl) T.g_as_text T.k_as_text T.b_as_text (takes_of rfl rfl rfl rfl) (os_cons (x_peek 1 (pv 1)) (os_nil)))))) (xss_cons (x_ifS (x_tcmp qGt (x_o (x_callB qLen (by rfl) T.n_len b_len (os_cons (x_peek 2 (pv 2)) (os_nil)))) (x_o (x_c (pe_glob (v := .int (200)) (by rfl) (T.v_MOST_SIGNS).choose_spec.1 (T.v_MOST_SIGNS).choose_spec.2) (fun _ _ => ⟨rfl, rfl⟩)))) (xss_one (x_ret (x_call (ok_fault T) (hr.mono (by decide)) (by rfl) T.g_fault T.k_fault T.b_fault (takes_of rfl rfl rfl rfl) (os_cons (x_o (x_str)) (os_nil))))) (xss_nil)) (xss_one (x_ret (x_mov 2 (pv 2)))))
/-- same_worth: slots 0 one, 1 other, -/
noncomputable def r_same_worth (K : PySem.W.Frag) (ca : Nat → Addr) : SS := s_seq (s_if (t_or (t_of (e_call (s_is_fault K ca) (es_cons (e_peek 0) (es_nil)))) (t_of (e_call (s_is_fault K ca) (es_cons (e_peek 1) (es_nil))))) (s_ret (e_c (.bl false))) (s_nil)) (s_seq (s_if (t_or (t_of (e_call (s_is_text K ca) (es_cons (e_peek 0) (es_nil)))) (t_of (e_call (s_is_text K ca) (es_cons (e_peek 1) (es_nil))))) (s_seq (s_if (t_or (t_of (e_op gIsN (e_peek 0) (e_c .non))) (t_of (e_op gIsN (e_peek 1) (e_c .non)))) (s_ret (e_op gEq (e_call (s_as_text K ca) (es_cons (e_peek 0) (es_nil))) (e_call (s_as_text K ca) (es_cons (e_peek 1) (es_nil))))) (s_nil)) (s_ret (e_and (e_call (s_is_text K ca) (es_cons (e_peek 0) (es_nil))) (e_and (e_call (s_is_text K ca) (es_cons (e_peek 1) (es_nil))) (e_op gEq (e_peek 0) (e_peek 1)))))) (s_nil)) (s_ret (e_op gEq (e_call (s_as_number K ca) (es_cons (e_peek 0) (es_nil))) (e_call (s_as_number K ca) (es_cons (e_peek 1) (es_nil))))))
noncomputable def s_same_worth (K : PySem.W.Frag) (ca : Nat → Addr) : SF := fnS 2 2 (r_same_worth K ca)
theorem sc_same_worth : FnScope ["one", "other"] ["one", "other"] (defScope (top 15)) := ⟨rfl, rfl, rfl, by decide +kernel, rfl, by decide +kernel, by decide +kernel⟩
theorem ok_same_worth (T : Txt K mg ca fa fd) : FnOk P w K mg base (L2.CX P w) 2 (fa 9) (fd 9) ["one", "other"] (spOf K ca (s_same_worth K ca)) := by
  refine fn_sound T.f_same_worth sc_same_worth rfl rfl fun cdv A outer s H E X hX hr => ?_
  have hu65 : X.A.units + 65 < cLine := by have := hr.un; omega
  have hu64 : X.A.units + 64 < cLine := by omega
  have hu1 : X.A.units + 1 < cLine := by omega
  have nd := sc_same_worth.nd
  subst hX
  exact xss_cons (x_ifS ((x_tor (x_tval (x_call (ok_is_fault T) (hr.mono (by decide)) (by rfl) T.g_is_fault T.k_is_fault T.b_is_fault (takes_of rfl rfl rfl rfl) (os_cons (x_peek 0 (pv 0)) (os_nil)))) (x_or1 (x_tval (x_call (ok_is_fault T) (hr.mono (by decide)) (by rfl) T.g_is_fault T.k_is_fault T.b_is_fault (takes_of rfl rfl rfl rfl) (os_cons (x_peek 1 (pv 1)) (os_nil)))))).pt) (xss_one (x_ret (x_bl))) (xss_nil)) (xss_cons (x_ifS ((x_tor (x_tval (x_call (ok_is_text T) (hr.mono (by decide)) (by rfl) T.g_is_text T.k_is_text T.b_is_text (takes_of rfl rfl rfl rfl) (os_cons (x_peek 0 (pv 0)) (os_nil)))) (x_or1 (x_tval (x_call (ok_is_text T) (hr.mono (by decide)) (by rfl) T.g_is_text T.k_is_text T.b_is_text (takes_of rfl rfl rfl rfl) (os_cons (x_peek 1 (pv 1)) (os_nil)))))).pt) (xss_cons (x_ifS ((x_tor (x_tcmp qIsN (x_peek 0 (pv 0)) (x_o (x_non))) (x_or1 (x_tcmp qIsN (x_peek 1 (pv 1)) (x_o (x_non))))).pt) (xss_one (x_ret (x_cmp (qEq hu64) (x_o (x_call (ok_as_text T) (hr.mono (by decide)) (by rfl) T.g_as_text T.k_as_text T.b_as_text (takes_of rfl rfl rfl rfl) (os_cons (x_peek 0 (pv 0)) (os_nil)))) (x_o (x_call (ok_as_text T) (hr.mono (by decide)) (by rfl) T.g_as_text T.k_as_text T.b_as_text (takes_of rfl rfl rfl rfl) (os_cons (x_peek 1 (pv 1)) (os_nil))))))) (xss_nil)) (xss_one (x_ret (x_and (x_call (ok_is_text T) (hr.mono (by decide)) (by rfl) T.g_is_text T.k_is_text T.b_is_text (takes_of rfl rfl rfl rfl) (os_cons (x_peek 0 (pv 0)) (os_nil))) (x_and (x_call (ok_is_text T) (hr.mono (by decide)) (by rfl) T.g_is_text T.k_is_text T.b_is_text (takes_of rfl rfl rfl rfl) (os_cons (x_peek 1 (pv 1)) (os_nil))) (x_one (x_cmp (qEq hu64) (x_peek 0 (pv 0)) (x_peek 1 (pv 1))))))))) (xss_nil)) (xss_one (x_ret (x_cmp (qEq hu64) (x_o (x_call (ok_as_number T) (hr.mono (by decide)) (by rfl) T.g_as_number T.k_as_number T.b_as_number (takes_of rfl rfl rfl rfl) (os_cons (x_peek 0 (pv 0)) (os_nil)))) (x_o (x_call (ok_as_number T) (hr.mono (by decide)) (by rfl) T.g_as_number T.k_as_number T.b_as_number (takes_of rfl rfl rfl rfl) (os_cons (x_peek 1 (pv 1)) (os_nil))))))))
/-- ahead_of: slots 0 one, 1 other, -/
noncomputable def r_ahead_of (K : PySem.W.Frag) (ca : Nat → Addr) : SS := s_seq (s_if (t_or (t_of (e_call (s_is_text K ca) (es_cons (e_peek 0) (es_nil)))) (t_of (e_call (s_is_text K ca) (es_cons (e_peek 1) (es_nil))))) (s_seq (s_if (t_and (t_of (e_op gNotN (e_peek 0) (e_c .non))) (t_and (t_of (e_op gNotN (e_peek 1) (e_c .non))) (t_of (e_op gNe (e_call (s_is_text K ca) (es_cons (e_peek 0) (es_nil))) (e_call (s_is_text K ca) (es_cons (e_peek 1) (es_nil))))))) (s_ret (e_call (s_fault K ca) (es_cons (e_c (.str "kind")) (es_nil)))) (s_nil)) (s_ret (e_callB gInt (es_cons (e_op gLt (e_call (s_as_text K ca) (es_cons (e_peek 0) (es_nil))) (e_call (s_as_text K ca) (es_cons (e_peek 1) (es_nil)))) (es_nil))))) (s_nil)) (s_ret (e_callB gInt (es_cons (e_op gLt (e_call (s_as_number K ca) (es_cons (e_peek 0) (es_nil))) (e_call (s_as_number K ca) (es_cons (e_peek 1) (es_nil)))) (es_nil))))
noncomputable def s_ahead_of (K : PySem.W.Frag) (ca : Nat → Addr) : SF := fnS 2 2 (r_ahead_of K ca)
theorem sc_ahead_of : FnScope ["one", "other"] ["one", "other"] (defScope (top 16)) := ⟨rfl, rfl, rfl, by decide +kernel, rfl, by decide +kernel, by decide +kernel⟩
theorem ok_ahead_of (T : Txt K mg ca fa fd) : FnOk P w K mg base (L2.CX P w) 2 (fa 10) (fd 10) ["one", "other"] (spOf K ca (s_ahead_of K ca)) := by
  refine fn_sound T.f_ahead_of sc_ahead_of rfl rfl fun cdv A outer s H E X hX hr => ?_
  have hu65 : X.A.units + 65 < cLine := by have := hr.un; omega
  have hu64 : X.A.units + 64 < cLine := by omega
  have hu1 : X.A.units + 1 < cLine := by omega
  have nd := sc_ahead_of.nd
  subst hX
  exact xss_cons (x_ifS ((x_tor (x_tval (x_call (ok_is_text T) (hr.mono (by decide)) (by rfl) T.g_is_text T.k_is_text T.b_is_text (takes_of rfl rfl rfl rfl) (os_cons (x_peek 0 (pv 0)) (os_nil)))) (x_or1 (x_tval (x_call (ok_is_text T) (hr.mono (by decide)) (by rfl) T.g_is_text T.k_is_text T.b_is_text (takes_of rfl rfl rfl rfl) (os_cons (x_peek 1 (pv 1)) (os_nil)))))).pt) (xss_cons (x_ifS ((x_tand (x_tcmp qNotN (x_peek 0 (pv 0)) (x_o (x_non))) (x_tand (x_tcmp qNotN (x_peek 1 (pv 1)) (x_o (x_non))) (x_and1 (x_tcmp (qNe hu64) (x_o (x_call (ok_is_text T) (hr.mono (by decide)) (by rfl) T.g_is_text T.k_is_text T.b_is_text (takes_of rfl rfl rfl rfl) (os_cons (x_peek 0 (pv 0)) (os_nil)))) (x_o (x_call (ok_is_text T) (hr.mono (by decide)) (by rfl) T.g_is_text T.k_is_text T.b_is_text (takes_of rfl rfl rfl rfl) (os_cons (x_peek 1 (pv 1)) (os_nil)))))))).pt) (xss_one (x_ret (x_call (ok_fault T) (hr.mono (by decide)) (by rfl) T.g_fault T.k_fault T.b_fault (takes_of rfl rfl rfl rfl) (os_cons (x_o (x_str)) (os_nil))))) (xss_nil)) (xss_one (x_ret (x_callTy qInt (by rfl) T.n_int b_int (os_cons (x_o (x_cmp qLt (x_o (x_call (ok_as_text T) (hr.mono (by decide)) (by rfl) T.g_as_text T.k_as_text T.b_as_text (takes_of rfl rfl rfl rfl) (os_cons (x_peek 0 (pv 0)) (os_nil)))) (x_o (x_call (ok_as_text T) (hr.mono (by decide)) (by rfl) T.g_as_text T.k_as_text T.b_as_text (takes_of rfl rfl rfl rfl) (os_cons (x_peek 1 (pv 1)) (os_nil)))))) (os_nil)))))) (xss_nil)) (xss_one (x_ret (x_callTy qInt (by rfl) T.n_int b_int (os_cons (x_o (x_cmp qLt (x_o (x_call (ok_as_number T) (hr.mono (by decide)) (by rfl) T.g_as_number T.k_as_number T.b_as_number (takes_of rfl rfl rfl rfl) (os_cons (x_peek 0 (pv 0)) (os_nil)))) (x_o (x_call (ok_as_number T) (hr.mono (by decide)) (by rfl) T.g_as_number T.k_as_number T.b_as_number (takes_of rfl rfl rfl rfl) (os_cons (x_peek 1 (pv 1)) (os_nil)))))) (os_nil)))))
/-- paired: slots 0 op, 1 one, 2 other, -/
noncomputable def r_paired (K : PySem.W.Frag) (ca : Nat → Addr) : SS := s_seq (s_if (t_of (e_call (s_is_fault K ca) (es_cons (e_peek 1) (es_nil)))) (s_ret (e_mov 1)) (s_nil)) (s_seq (s_if (t_of (e_call (s_is_fault K ca) (es_cons (e_peek 2) (es_nil)))) (s_ret (e_mov 2)) (s_nil)) (s_seq (s_if (t_of (e_op gEq (e_peek 0) (e_c (.str "&")))) (s_ret (e_call (s_joined K ca) (es_cons (e_peek 1) (es_cons (e_peek 2) (es_nil))))) (s_nil)) (s_seq (s_if (t_of (e_op gEq (e_peek 0) (e_c (.str "=")))) (s_ret (e_callB gInt (es_cons (e_call (s_same_worth K ca) (es_cons (e_peek 1) (es_cons (e_peek 2) (es_nil)))) (es_nil)))) (s_nil)) (s_seq (s_if (t_of (e_op gEq (e_peek 0) (e_c (.str "<")))) (s_ret (e_call (s_ahead_of K ca) (es_cons (e_peek 1) (es_cons (e_peek 2) (es_nil))))) (s_nil)) (s_seq (s_if (t_or (t_of (e_call (s_is_text K ca) (es_cons (e_peek 1) (es_nil)))) (t_of (e_call (s_is_text K ca) (es_cons (e_peek 2) (es_nil))))) (s_ret (e_call (s_fault K ca) (es_cons (e_c (.str "kind")) (es_nil)))) (s_nil)) (s_ret (e_call (s_reckoned K ca) (es_cons (e_peek 0) (es_cons (e_call (s_as_number K ca) (es_cons (e_peek 1) (es_nil))) (es_cons (e_call (s_as_number K ca) (es_cons (e_peek 2) (es_nil))) (es_nil)))))))))))
noncomputable def s_paired (K : PySem.W.Frag) (ca : Nat → Addr) : SF := fnS 3 3 (r_paired K ca)
theorem sc_paired : FnScope ["op", "one", "other"] ["op", "one", "other"] (defScope (top 17)) := ⟨rfl, rfl, rfl, by decide +kernel, rfl, by decide +kernel, by decide +kernel⟩
theorem ok_paired (T : Txt K mg ca fa fd) : FnOk P w K mg base (L2.CX P w) 4 (fa 11) (fd 11) ["op", "one", "other"] (spOf K ca (s_paired K ca)) := by
  refine fn_sound T.f_paired sc_paired rfl rfl fun cdv A outer s H E X hX hr => ?_
  have hu65 : X.A.units + 65 < cLine := by have := hr.un; omega
  have hu64 : X.A.units + 64 < cLine := by omega
  have hu1 : X.A.units + 1 < cLine := by omega
  have nd := sc_paired.nd
  subst hX
  exact xss_cons (x_ifS (x_tval (x_call (ok_is_fault T) (hr.mono (by decide)) (by rfl) T.g_is_fault T.k_is_fault T.b_is_fault (takes_of rfl rfl rfl rfl) (os_cons (x_peek 1 (pv 1)) (os_nil)))) (xss_one (x_ret (x_mov 1 (pv 1)))) (xss_nil)) (xss_cons (x_ifS (x_tval (x_call (ok_is_fault T) (hr.mono (by decide)) (by rfl) T.g_is_fault T.k_is_fault T.b_is_fault (takes_of rfl rfl rfl rfl) (os_cons (x_peek 2 (pv 2)) (os_nil)))) (xss_one (x_ret (x_mov 2 (pv 2)))) (xss_nil)) (xss_cons (x_ifS (x_tcmp (qEq hu64) (x_peek 0 (pv 0)) (x_o (x_str))) (xss_one (x_ret (x_call (ok_joined T) (hr.mono (by decide)) (by rfl) T.g_joined T.k_joined T.b_joined (takes_of rfl rfl rfl rfl) (os_cons (x_peek 1 (pv 1)) (os_cons (x_peek 2 (pv 2)) (os_nil)))))) (xss_nil)) (xss_cons (x_ifS (x_tcmp (qEq hu64) (x_peek 0 (pv 0)) (x_o (x_str))) (xss_one (x_ret (x_callTy qInt (by rfl) T.n_int b_int (os_cons (x_o (x_call (ok_same_worth T) (hr.mono (by decide)) (by rfl) T.g_same_worth T.k_same_worth T.b_same_worth (takes_of rfl rfl rfl rfl) (os_cons (x_peek 1 (pv 1)) (os_cons (x_peek 2 (pv 2)) (os_nil))))) (os_nil))))) (xss_nil)) (xss_cons (x_ifS (x_tcmp (qEq hu64) (x_peek 0 (pv 0)) (x_o (x_str))) (xss_one (x_ret (x_call (ok_ahead_of T) (hr.mono (by decide)) (by rfl) T.g_ahead_of T.k_ahead_of T.b_ahead_of (takes_of rfl rfl rfl rfl) (os_cons (x_peek 1 (pv 1)) (os_cons (x_peek 2 (pv 2)) (os_nil)))))) (xss_nil)) (xss_cons (x_ifS ((x_tor (x_tval (x_call (ok_is_text T) (hr.mono (by decide)) (by rfl) T.g_is_text T.k_is_text T.b_is_text (takes_of rfl rfl rfl rfl) (os_cons (x_peek 1 (pv 1)) (os_nil)))) (x_or1 (x_tval (x_call (ok_is_text T) (hr.mono (by decide)) (by rfl) T.g_is_text T.k_is_text T.b_is_text (takes_of rfl rfl rfl rfl) (os_cons (x_peek 2 (pv 2)) (os_nil)))))).pt) (xss_one (x_ret (x_call (ok_fault T) (hr.mono (by decide)) (by rfl) T.g_fault T.k_fault T.b_fault (takes_of rfl rfl rfl rfl) (os_cons (x_o (x_str)) (os_nil))))) (xss_nil)) (xss_one (x_ret (x_call (ok_reckoned T) (hr.mono (by decide)) (by rfl) T.g_reckoned T.k_reckoned T.b_reckoned (takes_of rfl rfl rfl rfl) (os_cons (x_peek 0 (pv 0)) (os_cons (x_o (x_call (ok_as_number T) (hr.mono (by decide)) (by rfl) T.g_as_number T.k_as_number T.b_as_number (takes_of rfl rfl rfl rfl) (os_cons (x_peek 1 (pv 1)) (os_nil)))) (os_cons (x_o (x_call (ok_as_number T) (hr.mono (by decide)) (by rfl) T.g_as_number T.k_as_number T.b_as_number (takes_of rfl rfl rfl rfl) (os_cons (x_peek 2 (pv 2)) (os_nil)))) (os_nil))))))))))))
/-- column_at: slots 0 table, 1 head, -/
noncomputable def r_column_at (K : PySem.W.Frag) (ca : Nat → Addr) : SS := s_seq (s_if (t_of (e_op gNotInD (e_peek 1) (e_ix (e_peek 0) (e_c (.int 0))))) (s_raise 1) (s_nil)) (s_ret (e_tidx (e_ix (e_peek 0) (e_c (.int 0))) (e_peek 1)))
noncomputable def s_column_at (K : PySem.W.Frag) (ca : Nat → Addr) : SF := fnS 2 2 (r_column_at K ca)
theorem sc_column_at : FnScope ["table", "head"] ["table", "head"] (defScope (top 19)) := ⟨rfl, rfl, rfl, by decide +kernel, rfl, by decide +kernel, by decide +kernel⟩
theorem ok_column_at (T : Txt K mg ca fa fd) : FnOk P w K mg base (L2.CX P w) 1 (fa 12) (fd 12) ["table", "head"] (spOf K ca (s_column_at K ca)) := by
  refine fn_sound T.f_column_at sc_column_at rfl rfl fun cdv A outer s H E X hX hr => ?_
  have hu65 : X.A.units + 65 < cLine := by have := hr.un; omega
  have hu64 : X.A.units + 64 < cLine := by omega
  have hu1 : X.A.units + 1 < cLine := by omega
  have nd := sc_column_at.nd
  subst hX
  exact xss_cons (x_ifS (x_tnin hu65 (x_peek 1 (pv 1)) (x_o (x_ix hu1 (x_peek 0 (pv 0)) (x_o (x_int))))) (xss_one (x_raise (c := 1) rfl (takes_of rfl rfl rfl rfl) (pmk_own PySem.F.excBase_ValueError T.o_NoColumn.x T.o_NoColumn.c T.o_NoColumn.k (raises_own T.o_NoColumn.s T.o_NoColumn.t) (by rfl)))) (xss_nil)) (xss_one (x_ret (x_tidx (x_o (x_ix hu1 (x_peek 0 (pv 0)) (x_o (x_int)))) (x_peek 1 (pv 1)))))
/-- column_of: slots 0 table, 1 head, 2 at, 3 row, -/
noncomputable def r_column_of (K : PySem.W.Frag) (ca : Nat → Addr) : SS := s_seq (s_set 2 (e_call (s_column_at K ca) (es_cons (e_peek 0) (es_cons (e_peek 1) (es_nil))))) (s_ret (e_lc [3] (i_of (e_ix (e_peek 0) (e_c (.int 1)))) (g_name 3) (t_yes) (e_ix (e_peek 3) (e_peek 2))))
noncomputable def s_column_of (K : PySem.W.Frag) (ca : Nat → Addr) : SF := fnS 2 4 (r_column_of K ca)
theorem sc_column_of : FnScope ["table", "head", "at", "row"] ["table", "head"] (defScope (top 20)) := ⟨rfl, rfl, rfl, by decide +kernel, rfl, by decide +kernel, by decide +kernel⟩
theorem ok_column_of (T : Txt K mg ca fa fd) : FnOk P w K mg base (L2.CX P w) 2 (fa 13) (fd 13) ["table", "head"] (spOf K ca (s_column_of K ca)) := by
  refine fn_sound T.f_column_of sc_column_of rfl rfl fun cdv A outer s H E X hX hr => ?_
  have hu65 : X.A.units + 65 < cLine := by have := hr.un; omega
  have hu64 : X.A.units + 64 < cLine := by omega
  have hu1 : X.A.units + 1 < cLine := by omega
  have nd := sc_column_of.nd
  subst hX
  exact xss_cons (x_set (i := 2) nd rfl (.inr rfl) (x_call (ok_column_at T) (hr.mono (by decide)) (by rfl) T.g_column_at T.k_column_at T.b_column_at (takes_of rfl rfl rfl rfl) (os_cons (x_peek 0 (pv 0)) (os_cons (x_peek 1 (pv 1)) (os_nil))))) (xss_one (x_ret (x_lc (own := [("row", 3)]) rfl nd (xi_of (x_ix hu1 (x_peek 0 (pv 0)) (x_o (x_int)))) (blkOk_by (N := ["table", "head", "at", "row"]) (sc := defScope (top 20)) (by decide +kernel)) (fun _ _ _ _ _ => vg_name (i := 3) nd rfl (.inl rfl)) (fun _ _ _ _ _ => xts_nil) (fun _ _ _ _ _ => x_ix hu1 (x_peek 3 (pv 3)) (x_peek 2 (pv 2))))))
/-- fits: slots 0 worth, 1 op, 2 key, -/
noncomputable def r_fits (K : PySem.W.Frag) (ca : Nat → Addr) : SS := s_seq (s_if (t_of (e_op gIsN (e_peek 0) (e_c .non))) (s_ret (e_c (.bl false))) (s_nil)) (s_seq (s_if (t_of (e_op gEq (e_peek 1) (e_c (.str ">")))) (s_ret (e_op gEq (e_call (s_paired K ca) (es_cons (e_c (.str "<")) (es_cons (e_peek 2) (es_cons (e_peek 0) (es_nil))))) (e_c (.int 1)))) (s_nil)) (s_ret (e_op gEq (e_call (s_paired K ca) (es_cons (e_peek 1) (es_cons (e_peek 0) (es_cons (e_peek 2) (es_nil))))) (e_c (.int 1)))))
noncomputable def s_fits (K : PySem.W.Frag) (ca : Nat → Addr) : SF := fnS 3 3 (r_fits K ca)
theorem sc_fits : FnScope ["worth", "op", "key"] ["worth", "op", "key"] (defScope (top 21)) := ⟨rfl, rfl, rfl, by decide +kernel, rfl, by decide +kernel, by decide +kernel⟩
theorem ok_fits (T : Txt K mg ca fa fd) : FnOk P w K mg base (L2.CX P w) 5 (fa 14) (fd 14) ["worth", "op", "key"] (spOf K ca (s_fits K ca)) := by
  refine fn_sound T.f_fits sc_fits rfl rfl fun cdv A outer s H E X hX hr => ?_
  have hu65 : X.A.units + 65 < cLine := by have := hr.un; omega
  have hu64 : X.A.units + 64 < cLine := by omega
  have hu1 : X.A.units + 1 < cLine := by omega
  have nd := sc_fits.nd
  subst hX
  exact xss_cons (x_ifS (x_tcmp qIsN (x_peek 0 (pv 0)) (x_o (x_non))) (xss_one (x_ret (x_bl))) (xss_nil)) (xss_cons (x_ifS (x_tcmp (qEq hu64) (x_peek 1 (pv 1)) (x_o (x_str))) (xss_one (x_ret (x_cmp (qEq hu64) (x_o (x_call (ok_paired T) (hr.mono (by decide)) (by rfl) T.g_paired T.k_paired T.b_paired (takes_of rfl rfl rfl rfl) (os_cons (x_o (x_str)) (os_cons (x_peek 2 (pv 2)) (os_cons (x_peek 0 (pv 0)) (os_nil)))))) (x_o (x_int))))) (xss_nil)) (xss_one (x_ret (x_cmp (qEq hu64) (x_o (x_call (ok_paired T) (hr.mono (by decide)) (by rfl) T.g_paired T.k_paired T.b_paired (takes_of rfl rfl rfl rfl) (os_cons (x_peek 1 (pv 1)) (os_cons (x_peek 0 (pv 0)) (os_cons (x_peek 2 (pv 2)) (os_nil)))))) (x_o (x_int))))))
/-- fitting: slots 0 table, 1 head, 2 op, 3 key, 4 number, 5 worth, -/
noncomputable def r_fitting (K : PySem.W.Frag) (ca : Nat → Addr) : SS := s_ret (e_lc [4, 5] (i_enum (e_call (s_column_of K ca) (es_cons (e_peek 0) (es_cons (e_peek 1) (es_nil))))) (g_tup (g_cons (g_name 4) (g_cons (g_name 5) (g_nil)))) (t_of (e_call (s_fits K ca) (es_cons (e_peek 5) (es_cons (e_peek 2) (es_cons (e_peek 3) (es_nil)))))) (e_var 4))
noncomputable def s_fitting (K : PySem.W.Frag) (ca : Nat → Addr) : SF := fnS 4 6 (r_fitting K ca)
theorem sc_fitting : FnScope ["table", "head", "op", "key", "number", "worth"] ["table", "head", "op", "key"] (defScope (top 22)) := ⟨rfl, rfl, rfl, by decide +kernel, rfl, by decide +kernel, by decide +kernel⟩
theorem ok_fitting (T : Txt K mg ca fa fd) : FnOk P w K mg base (L2.CX P w) 6 (fa 15) (fd 15) ["table", "head", "op", "key"] (spOf K ca (s_fitting K ca)) := by
  refine fn_sound T.f_fitting sc_fitting rfl rfl fun cdv A outer s H E X hX hr => ?_
  have hu65 : X.A.units + 65 < cLine := by have := hr.un; omega
  have hu64 : X.A.units + 64 < cLine := by omega
  have hu1 : X.A.units + 1 < cLine := by omega
  have nd := sc_fitting.nd
  subst hX
  exact xss_one (x_ret (x_lc (own := [("number", 4), ("worth", 5)]) rfl nd (xi_enum (by rfl) T.n_enumerate (x_call (ok_column_of T) (hr.mono (by decide)) (by rfl) T.g_column_of T.k_column_of T.b_column_of (takes_of rfl rfl rfl rfl) (os_cons (x_peek 0 (pv 0)) (os_cons (x_peek 1 (pv 1)) (os_nil))))) (blkOk_by (N := ["table", "head", "op", "key", "number", "worth"]) (sc := defScope (top 22)) (by decide +kernel)) (fun _ _ _ _ _ => vg_tup (n := 2) rfl (vgs_cons (i := 4) nd rfl (.inl rfl) (vgs_cons (i := 5) nd rfl (.inl rfl) (vgs_nil))) g_len2) (fun _ _ _ _ _ => xts_one (x_tval (x_call (ok_fits T) (hr.mono (by decide)) (by rfl) T.g_fits T.k_fits T.b_fits takesN (os_cons (x_peek 5 (pv 5)) (os_cons (x_peek 2 (pv 2)) (os_cons (x_peek 3 (pv 3)) (os_nil))))))) (fun _ _ _ _ _ => x_var 4 (pv 4))))
/-- paired_rows: slots 0 table, 1 head, 2 further, 3 other, 4 mine, 5 yours, 6 pairs, 7 one, 8 worth, 9 two, 10 key, -/
noncomputable def r_paired_rows (K : PySem.W.Frag) (ca : Nat → Addr) : SS := s_seq (s_set 4 (e_call (s_column_of K ca) (es_cons (e_peek 0) (es_cons (e_peek 1) (es_nil))))) (s_seq (s_set 5 (e_call (s_column_of K ca) (es_cons (e_peek 2) (es_cons (e_peek 3) (es_nil))))) (s_seq (s_set 6 (e_lst (es_nil))) (s_seq (s_for (i_enum (e_var 4)) (g_tup (g_cons (g_name 7) (g_cons (g_name 8) (g_nil)))) (s_for (i_enum (e_var 5)) (g_tup (g_cons (g_name 9) (g_cons (g_name 10) (g_nil)))) (s_if (t_and (t_of (e_op gNotN (e_peek 8) (e_c .non))) (t_and (t_of (e_op gNotN (e_peek 10) (e_c .non))) (t_of (e_call (s_same_worth K ca) (es_cons (e_peek 8) (es_cons (e_peek 10) (es_nil))))))) (s_append 6 (e_tup (es_cons (e_var 7) (es_cons (e_var 9) (es_nil))))) (s_nil)))) (s_ret (e_mov 6)))))
noncomputable def s_paired_rows (K : PySem.W.Frag) (ca : Nat → Addr) : SF := fnS 4 11 (r_paired_rows K ca)
theorem sc_paired_rows : FnScope ["table", "head", "further", "other", "mine", "yours", "pairs", "one", "worth", "two", "key"] ["table", "head", "further", "other"] (defScope (top 24)) := ⟨rfl, rfl, rfl, by decide +kernel, rfl, by decide +kernel, by decide +kernel⟩
theorem ok_paired_rows (T : Txt K mg ca fa fd) : FnOk P w K mg base (L2.CX P w) 3 (fa 16) (fd 16) ["table", "head", "further", "other"] (spOf K ca (s_paired_rows K ca)) := by
  refine fn_sound T.f_paired_rows sc_paired_rows rfl rfl fun cdv A outer s H E X hX hr => ?_
  have hu65 : X.A.units + 65 < cLine := by have := hr.un; omega
  have hu64 : X.A.units + 64 < cLine := by omega
  have hu1 : X.A.units + 1 < cLine := by omega
  have nd := sc_paired_rows.nd
  subst hX
  exact xss_cons (x_set (i := 4) nd rfl (.inl rfl) (x_call (ok_column_of T) (hr.mono (by decide)) (by rfl) T.g_column_of T.k_column_of T.b_column_of (takes_of rfl rfl rfl rfl) (os_cons (x_peek 0 (pv 0)) (os_cons (x_peek 1 (pv 1)) (os_nil))))) (xss_cons (x_set (i := 5) nd rfl (.inl rfl) (x_call (ok_column_of T) (hr.mono (by decide)) (by rfl) T.g_column_of T.k_column_of T.b_column_of (takes_of rfl rfl rfl rfl) (os_cons (x_peek 2 (pv 2)) (os_cons (x_peek 3 (pv 3)) (os_nil))))) (xss_cons (x_set (i := 6) nd rfl (.inl rfl) (x_lst (xs_nil))) (xss_cons (x_for (passes_of rfl) rfl (xi_enum (by rfl) T.n_enumerate (x_var 4 (pv 4))) (xg_tup (n := 2) rfl (xgs_cons (i := 7) nd rfl (.inl rfl) (xgs_cons (i := 8) nd rfl (.inl rfl) (xgs_nil))) g_len2) (xss_one (x_for (passes_of rfl) rfl (xi_enum (by rfl) T.n_enumerate (x_var 5 (pv 5))) (xg_tup (n := 2) rfl (xgs_cons (i := 9) nd rfl (.inl rfl) (xgs_cons (i := 10) nd rfl (.inl rfl) (xgs_nil))) g_len2) (xss_one (x_ifS ((x_tand (x_tcmp qNotN (x_peek 8 (pv 8)) (x_o (x_non))) (x_tand (x_tcmp qNotN (x_peek 10 (pv 10)) (x_o (x_non))) (x_and1 (x_tval (x_call (ok_same_worth T) (hr.mono (by decide)) (by rfl) T.g_same_worth T.k_same_worth T.b_same_worth (takes_of rfl rfl rfl rfl) (os_cons (x_peek 8 (pv 8)) (os_cons (x_peek 10 (pv 10)) (os_nil)))))))).pt) (xss_one (x_append (i := 6) (pv 6) (x_tup (xs_cons (x_var 7 (pv 7)) (xs_cons (x_var 9 (pv 9)) (xs_nil)))))) (xss_nil)))))) (xss_one (x_ret (x_mov 6 (pv 6)))))))
/-- _law_mix: slots 0 cell, 1 k, 2 m, -/
noncomputable def r__law_mix (K : PySem.W.Frag) (ca : Nat → Addr) : SS := s_seq (s_set 2 (e_op gMod (e_op gAdd (e_op gMul (e_op gMod (e_peek 0) (e_c (.int 1000000007))) (e_c (.int 48271))) (e_op gMul (e_op gMul (e_op gAdd (e_peek 1) (e_c (.int 1))) (e_op gAdd (e_peek 1) (e_c (.int 1)))) (e_c (.int 69621)))) (e_c (.int 2147483647)))) (s_ret (e_op gDiv (e_op gMod (e_op gMul (e_peek 2) (e_peek 2)) (e_c (.int 2147483629))) (e_c (.int 8))))
noncomputable def s__law_mix (K : PySem.W.Frag) (ca : Nat → Addr) : SF := fnS 2 3 (r__law_mix K ca)
theorem sc__law_mix : FnScope ["cell", "k", "m"] ["cell", "k"] (defScope (top 26)) := ⟨rfl, rfl, rfl, by decide +kernel, rfl, by decide +kernel, by decide +kernel⟩
theorem ok__law_mix (T : Txt K mg ca fa fd) : FnOk P w K mg base (L2.CX P w) 1 (fa 17) (fd 17) ["cell", "k"] (spOf K ca (s__law_mix K ca)) := by
  refine fn_sound T.f__law_mix sc__law_mix rfl rfl fun cdv A outer s H E X hX hr => ?_
  have hu65 : X.A.units + 65 < cLine := by have := hr.un; omega
  have hu64 : X.A.units + 64 < cLine := by omega
  have hu1 : X.A.units + 1 < cLine := by omega
  have nd := sc__law_mix.nd
  subst hX
  exact xss_cons (x_set (i := 2) nd rfl (.inl rfl) (x_op qMod (x_o (x_op qAdd (x_o (x_op qMul (x_o (x_op qMod (x_peek 0 (pv 0)) (x_o (x_int)))) (x_o (x_int)))) (x_o (x_op qMul (x_o (x_op qMul (x_o (x_op qAdd (x_peek 1 (pv 1)) (x_o (x_int)))) (x_o (x_op qAdd (x_peek 1 (pv 1)) (x_o (x_int)))))) (x_o (x_int)))))) (x_o (x_int)))) (xss_one (x_ret (x_op qDiv (x_o (x_op qMod (x_o (x_op qMul (x_peek 2 (pv 2)) (x_peek 2 (pv 2)))) (x_o (x_int)))) (x_o (x_int)))))
/-- _law_digits: slots 0 cell, 1 size, 2 many, 3 found, 4 rest, 5 k, -/
noncomputable def r__law_digits (K : PySem.W.Frag) (ca : Nat → Addr) : SS := s_seq (s_set 3 (e_lst (es_nil))) (s_seq (s_if (t_of (e_op gEq (e_op gMod (e_peek 0) (e_c (.int 2))) (e_c (.int 1)))) (s_seq (s_set 4 (e_op gDiv (e_peek 0) (e_c (.int 2)))) (s_for (i_range gRange1 (es_cons (e_peek 2) (es_nil))) (g_name 5) (s_seq (s_append 3 (e_op gMod (e_peek 4) (e_peek 1))) (s_set 4 (e_op gDiv (e_peek 4) (e_peek 1)))))) (s_asg (g_name 3) (e_lc [5] (i_range gRange1 (es_cons (e_peek 2) (es_nil))) (g_name 5) (t_yes) (e_op gMod (e_call (s__law_mix K ca) (es_cons (e_peek 0) (es_cons (e_peek 5) (es_nil)))) (e_peek 1))))) (s_ret (e_mov 3)))
noncomputable def s__law_digits (K : PySem.W.Frag) (ca : Nat → Addr) : SF := fnS 3 6 (r__law_digits K ca)
theorem sc__law_digits : FnScope ["cell", "size", "many", "found", "rest", "k"] ["cell", "size", "many"] (defScope (top 27)) := ⟨rfl, rfl, rfl, by decide +kernel, rfl, by decide +kernel, by decide +kernel⟩
theorem ok__law_digits (T : Txt K mg ca fa fd) : FnOk P w K mg base (L2.CX P w) 2 (fa 18) (fd 18) ["cell", "size", "many"] (spOf K ca (s__law_digits K ca)) := by
  refine fn_sound T.f__law_digits sc__law_digits rfl rfl fun cdv A outer s H E X hX hr => ?_
  have hu65 : X.A.units + 65 < cLine := by have := hr.un; omega
  have hu64 : X.A.units + 64 < cLine := by omega
  have hu1 : X.A.units + 1 < cLine := by omega
  have nd := sc__law_digits.nd
  subst hX
  exact xss_cons (x_set (i := 3) nd rfl (.inl rfl) (x_lst (xs_nil))) (xss_cons (x_ifS (x_tcmp (qEq hu64) (x_o (x_op qMod (x_peek 0 (pv 0)) (x_o (x_int)))) (x_o (x_int))) (xss_cons (x_set (i := 4) nd rfl (.inl rfl) (x_op qDiv (x_peek 0 (pv 0)) (x_o (x_int)))) (xss_one (x_for (passes_of rfl) rfl (xi_range1 (by rfl) T.n_range (os_cons (x_peek 2 (pv 2)) (os_nil))) (xg_name (i := 5) nd rfl (.inl rfl)) (xss_cons (x_append (i := 3) (pv 3) (x_op qMod (x_peek 4 (pv 4)) (x_peek 1 (pv 1)))) (xss_one (x_set (i := 4) nd rfl (.inl rfl) (x_op qDiv (x_peek 4 (pv 4)) (x_peek 1 (pv 1))))))))) (xss_one (x_setLc (i := 3) (own := [("k", 5)]) rfl nd rfl rfl (sw_true rfl rfl rfl (by decide +kernel)) (xi_range1 (by rfl) T.n_range (os_cons (x_peek 2 (pv 2)) (os_nil))) (blkOk_by (N := ["cell", "size", "many", "found", "rest", "k"]) (sc := defScope (top 27)) (by decide +kernel)) (fun _ _ _ _ _ => vg_name (i := 5) nd rfl (.inl rfl)) (fun _ _ _ _ _ => xts_nil) (fun _ _ _ _ _ => x_op qMod (x_o (x_call (ok__law_mix T) (hr.mono (by decide)) (by rfl) T.g__law_mix T.k__law_mix T.b__law_mix takesN (os_cons (x_peek 0 (pv 0)) (os_cons (x_peek 5 (pv 5)) (os_nil))))) (x_peek 1 (pv 1)))))) (xss_one (x_ret (x_mov 3 (pv 3)))))
/-- _law_worths: slots 0 cell, 1 many, 2 some, 3 digit, -/
noncomputable def r__law_worths (K : PySem.W.Frag) (ca : Nat → Addr) : SS := s_seq (s_set 2 (e_lst (es_cons (e_c .non) (es_cons (e_c (.int 0)) (es_cons (e_c (.int 1)) (es_cons (e_c (.int 2)) (es_cons (e_un gNeg (e_c (.int 1))) (es_cons (e_c (.str "a")) (es_cons (e_c (.str "b")) (es_cons (e_c (.str "ab")) (es_cons (e_c (.str "")) (es_cons (e_op gPow (e_c (.int 10)) (e_c (.int 60))) (es_cons (e_un gNeg (e_op gPow (e_c (.int 10)) (e_c (.int 60)))) (es_cons (e_c (.str "1")) (es_cons (e_op gMul (e_c (.str "x")) (e_c (.int 200))) (es_nil)))))))))))))))) (s_ret (e_lc [3] (i_of (e_call (s__law_digits K ca) (es_cons (e_peek 0) (es_cons (e_callB gLen (es_cons (e_peek 2) (es_nil))) (es_cons (e_peek 1) (es_nil)))))) (g_name 3) (t_yes) (e_ix (e_peek 2) (e_peek 3))))
noncomputable def s__law_worths (K : PySem.W.Frag) (ca : Nat → Addr) : SF := fnS 2 4 (r__law_worths K ca)
theorem sc__law_worths : FnScope ["cell", "many", "some", "digit"] ["cell", "many"] (defScope (top 28)) := ⟨rfl, rfl, rfl, by decide +kernel, rfl, by decide +kernel, by decide +kernel⟩
theorem ok__law_worths (T : Txt K mg ca fa fd) : FnOk P w K mg base (L2.CX P w) 3 (fa 19) (fd 19) ["cell", "many"] (spOf K ca (s__law_worths K ca)) := by
  refine fn_sound T.f__law_worths sc__law_worths rfl rfl fun cdv A outer s H E X hX hr => ?_
  have hu65 : X.A.units + 65 < cLine := by have := hr.un; omega
  have hu64 : X.A.units + 64 < cLine := by omega
  have hu1 : X.A.units + 1 < cLine := by omega
  have nd := sc__law_worths.nd
  subst hX
  exact xss_cons (x_set (i := 2) nd rfl (.inr rfl) (x_lst (xs_cons (x_non) (xs_cons (x_int) (xs_cons (x_int) (xs_cons (x_int) (xs_cons (x_un qNeg (x_o (x_int))) (xs_cons (x_str) (xs_cons (x_str) (xs_cons (x_str) (xs_cons (x_str) (xs_cons (x_op qPow (x_o (x_int)) (x_o (x_int))) (xs_cons (x_un qNeg (x_o (x_op qPow (x_o (x_int)) (x_o (x_int))))) (xs_cons (x_str) (xs_cons (x_op qMul (x_o (x_str)) (x_o (x_int))) (xs_nil)))))))))))))))) (xss_one (x_ret (x_lc (own := [("digit", 3)]) rfl nd (xi_of (x_call (ok__law_digits T) (hr.mono (by decide)) (by rfl) T.g__law_digits T.k__law_digits T.b__law_digits (takes_of rfl rfl rfl rfl) (os_cons (x_peek 0 (pv 0)) (os_cons (x_o (x_callB qLen (by rfl) T.n_len b_len (os_cons (x_peek 2 (pv 2)) (os_nil)))) (os_cons (x_peek 1 (pv 1)) (os_nil)))))) (blkOk_by (N := ["cell", "many", "some", "digit"]) (sc := defScope (top 28)) (by decide +kernel)) (fun _ _ _ _ _ => vg_name (i := 3) nd rfl (.inl rfl)) (fun _ _ _ _ _ => xts_nil) (fun _ _ _ _ _ => x_ix hu1 (x_peek 2 (pv 2)) (x_peek 3 (pv 3))))))
/-- _law_table: slots 0 script, 1 at, 2 rows_most, 3 cell, 4 wide, 5 high, 6 heads, 7 worths, 8 rows, 9 k, -/
noncomputable def r__law_table (K : PySem.W.Frag) (ca : Nat → Addr) : SS := s_seq (s_set 3 (e_ix (e_op gAdd (e_peek 0) (e_op gMul (e_lst (es_cons (e_c (.int 0)) (es_nil))) (e_c (.int 4)))) (e_peek 1))) (s_seq (s_set 4 (e_op gAdd (e_c (.int 1)) (e_op gMod (e_peek 3) (e_c (.int 4))))) (s_seq (s_set 5 (e_op gMod (e_op gDiv (e_peek 3) (e_c (.int 4))) (e_op gAdd (e_peek 2) (e_c (.int 1))))) (s_seq (s_set 6 (e_sl (e_callB gTuple (es_cons (e_op gAdd (e_sl (e_lst (es_cons (e_c (.str "b")) (es_cons (e_c (.str "a")) (es_cons (e_c (.str "ab")) (es_cons (e_c (.str "c")) (es_nil)))))) (p_some (e_op gMod (e_op gDiv (e_peek 3) (e_c (.int 64))) (e_c (.int 4)))) (p_none)) (e_sl (e_lst (es_cons (e_c (.str "b")) (es_cons (e_c (.str "a")) (es_cons (e_c (.str "ab")) (es_cons (e_c (.str "c")) (es_nil)))))) (p_none) (p_some (e_op gMod (e_op gDiv (e_peek 3) (e_c (.int 64))) (e_c (.int 4)))))) (es_nil))) (p_none) (p_some (e_peek 4)))) (s_seq (s_set 7 (e_call (s__law_worths K ca) (es_cons (e_callB gSum (es_cons (e_sl (e_peek 0) (p_some (e_op gAdd (e_peek 1) (e_c (.int 1)))) (p_none)) (es_nil))) (es_cons (e_op gMul (e_peek 4) (e_peek 5)) (es_nil))))) (s_seq (s_set 8 (e_callB gTuple (es_cons (e_lc [9] (i_range gRange1 (es_cons (e_peek 5) (es_nil))) (g_name 9) (t_yes) (e_callB gTuple (es_cons (e_sl (e_peek 7) (p_some (e_op gMul (e_peek 9) (e_peek 4))) (p_some (e_op gAdd (e_op gMul (e_peek 9) (e_peek 4)) (e_peek 4)))) (es_nil)))) (es_nil)))) (s_ret (e_tup (es_cons (e_mov 6) (es_cons (e_mov 8) (es_nil))))))))))
noncomputable def s__law_table (K : PySem.W.Frag) (ca : Nat → Addr) : SF := fnS 3 10 (r__law_table K ca)
theorem sc__law_table : FnScope ["script", "at", "rows_most", "cell", "wide", "high", "heads", "worths", "rows", "k"] ["script", "at", "rows_most"] (defScope (top 29)) := ⟨rfl, rfl, rfl, by decide +kernel, rfl, by decide +kernel, by decide +kernel⟩
theorem ok__law_table (T : Txt K mg ca fa fd) : FnOk P w K mg base (L2.CX P w) 4 (fa 20) (fd 20) ["script", "at", "rows_most"] (spOf K ca (s__law_table K ca)) := by
  refine fn_sound T.f__law_table sc__law_table rfl rfl fun cdv A outer s H E X hX hr => ?_
  have hu65 : X.A.units + 65 < cLine := by have := hr.un; omega
  have hu64 : X.A.units + 64 < cLine := by omega
  have hu1 : X.A.units + 1 < cLine := by omega
  have nd := sc__law_table.nd
  subst hX
  exact xss_cons (x_set (i := 3) nd rfl (.inl rfl) (x_ix hu1 (x_o (x_op qAdd (x_peek 0 (pv 0)) (x_o (x_op qMul (x_o (x_lst (xs_cons (x_int) (xs_nil)))) (x_o (x_int)))))) (x_peek 1 (pv 1)))) (xss_cons (x_set (i := 4) nd rfl (.inr rfl) (x_op qAdd (x_o (x_int)) (x_o (x_op qMod (x_peek 3 (pv 3)) (x_o (x_int)))))) (xss_cons (x_set (i := 5) nd rfl (.inl rfl) (x_op qMod (x_o (x_op qDiv (x_peek 3 (pv 3)) (x_o (x_int)))) (x_o (x_op qAdd (x_peek 2 (pv 2)) (x_o (x_int)))))) (xss_cons (x_set (i := 6) nd rfl (.inl rfl) (x_sl (x_o (x_callTy qTuple (by rfl) T.n_tuple b_tuple (os_cons (x_o (x_op qAdd (x_o (x_sl (x_o (x_lst (xs_cons (x_str) (xs_cons (x_str) (xs_cons (x_str) (xs_cons (x_str) (xs_nil))))))) (xp_some (x_o (x_op qMod (x_o (x_op qDiv (x_peek 3 (pv 3)) (x_o (x_int)))) (x_o (x_int))))) (xp_none))) (x_o (x_sl (x_o (x_lst (xs_cons (x_str) (xs_cons (x_str) (xs_cons (x_str) (xs_cons (x_str) (xs_nil))))))) (xp_none) (xp_some (x_o (x_op qMod (x_o (x_op qDiv (x_peek 3 (pv 3)) (x_o (x_int)))) (x_o (x_int))))))))) (os_nil)))) (xp_none) (xp_some (x_peek 4 (pv 4))))) (xss_cons (x_set (i := 7) nd rfl (.inr rfl) (x_call (ok__law_worths T) (hr.mono (by decide)) (by rfl) T.g__law_worths T.k__law_worths T.b__law_worths (takes_of rfl rfl rfl rfl) (os_cons (x_o (x_callB (qSum rfl) (by rfl) T.n_sum b_sum (os_cons (x_o (x_sl (x_peek 0 (pv 0)) (xp_some (x_o (x_op qAdd (x_peek 1 (pv 1)) (x_o (x_int))))) (xp_none))) (os_nil)))) (os_cons (x_o (x_op qMul (x_peek 4 (pv 4)) (x_peek 5 (pv 5)))) (os_nil))))) (xss_cons (x_set (i := 8) nd rfl (.inl rfl) (x_callTy qTuple (by rfl) T.n_tuple b_tuple (os_cons (x_o (x_lc (own := [("k", 9)]) rfl nd (xi_range1 (by rfl) T.n_range (os_cons (x_peek 5 (pv 5)) (os_nil))) (blkOk_by (N := ["script", "at", "rows_most", "cell", "wide", "high", "heads", "worths", "rows", "k"]) (sc := defScope (top 29)) (by decide +kernel)) (fun _ _ _ _ _ => vg_name (i := 9) nd rfl (.inl rfl)) (fun _ _ _ _ _ => xts_nil) (fun _ _ _ _ _ => x_callTy qTuple (by rfl) T.n_tuple b_tuple (os_cons (x_o (x_sl (x_peek 7 (pv 7)) (xp_some (x_o (x_op qMul (x_peek 9 (pv 9)) (x_peek 4 (pv 4))))) (xp_some (x_o (x_op qAdd (x_o (x_op qMul (x_peek 9 (pv 9)) (x_peek 4 (pv 4)))) (x_peek 4 (pv 4))))))) (os_nil))))) (os_nil)))) (xss_one (x_ret (x_tup (xs_cons (x_mov 6 (pv 6)) (xs_cons (x_mov 8 (pv 8)) (xs_nil)))))))))))
/-- _law_less: slots 0 one, 1 other, -/
noncomputable def r__law_less (K : PySem.W.Frag) (ca : Nat → Addr) : SS := s_seq (s_if (t_of (e_op gNe (e_isi "str" (e_peek 0)) (e_isi "str" (e_peek 1)))) (s_ret (e_c (.bl false))) (s_nil)) (s_ret (e_op gLt (e_peek 0) (e_peek 1)))
noncomputable def s__law_less (K : PySem.W.Frag) (ca : Nat → Addr) : SF := fnS 2 2 (r__law_less K ca)
theorem sc__law_less : FnScope ["one", "other"] ["one", "other"] (defScope (top 30)) := ⟨rfl, rfl, rfl, by decide +kernel, rfl, by decide +kernel, by decide +kernel⟩
theorem ok__law_less (T : Txt K mg ca fa fd) : FnOk P w K mg base (L2.CX P w) 1 (fa 21) (fd 21) ["one", "other"] (spOf K ca (s__law_less K ca)) := by
  refine fn_sound T.f__law_less sc__law_less rfl rfl fun cdv A outer s H E X hX hr => ?_
  have hu65 : X.A.units + 65 < cLine := by have := hr.un; omega
  have hu64 : X.A.units + 64 < cLine := by omega
  have hu1 : X.A.units + 1 < cLine := by omega
  have nd := sc__law_less.nd
  subst hX
  exact xss_cons (x_ifS (x_tcmp (qNe hu64) (x_o (x_isi (by rfl) T.n_isinstance b_isinstance (by rfl) T.n_str b_str (x_peek 0 (pv 0)))) (x_o (x_isi (by rfl) T.n_isinstance b_isinstance (by rfl) T.n_str b_str (x_peek 1 (pv 1))))) (xss_one (x_ret (x_bl))) (xss_nil)) (xss_one (x_ret (x_cmp qLt (x_peek 0 (pv 0)) (x_peek 1 (pv 1)))))
/-- _law_due: slots 0 column, 1 op, 2 key, 3 found, 4 k, 5 worth, -/
noncomputable def r__law_due (K : PySem.W.Frag) (ca : Nat → Addr) : SS := s_seq (s_set 3 (e_lst (es_nil))) (s_seq (s_for (i_range gRange1 (es_cons (e_callB gLen (es_cons (e_peek 0) (es_nil))) (es_nil))) (g_name 4) (s_seq (s_set 5 (e_ix (e_peek 0) (e_peek 4))) (s_if (t_of (e_op gNotN (e_peek 5) (e_c .non))) (s_if (t_or (t_and (t_of (e_op gEq (e_peek 1) (e_c (.str "=")))) (t_of (e_op gEq (e_peek 5) (e_peek 2)))) (t_or (t_and (t_of (e_op gEq (e_peek 1) (e_c (.str "<")))) (t_of (e_call (s__law_less K ca) (es_cons (e_peek 5) (es_cons (e_peek 2) (es_nil)))))) (t_and (t_of (e_op gEq (e_peek 1) (e_c (.str ">")))) (t_of (e_call (s__law_less K ca) (es_cons (e_peek 2) (es_cons (e_peek 5) (es_nil)))))))) (s_append 3 (e_var 4)) (s_nil)) (s_nil)))) (s_ret (e_mov 3)))
noncomputable def s__law_due (K : PySem.W.Frag) (ca : Nat → Addr) : SF := fnS 3 6 (r__law_due K ca)
theorem sc__law_due : FnScope ["column", "op", "key", "found", "k", "worth"] ["column", "op", "key"] (defScope (top 31)) := ⟨rfl, rfl, rfl, by decide +kernel, rfl, by decide +kernel, by decide +kernel⟩
theorem ok__law_due (T : Txt K mg ca fa fd) : FnOk P w K mg base (L2.CX P w) 2 (fa 22) (fd 22) ["column", "op", "key"] (spOf K ca (s__law_due K ca)) := by
  refine fn_sound T.f__law_due sc__law_due rfl rfl fun cdv A outer s H E X hX hr => ?_
  have hu65 : X.A.units + 65 < cLine := by have := hr.un; omega
  have hu64 : X.A.units + 64 < cLine := by omega
  have hu1 : X.A.units + 1 < cLine := by omega
  have nd := sc__law_due.nd
  subst hX
  exact xss_cons (x_set (i := 3) nd rfl (.inl rfl) (x_lst (xs_nil))) (xss_cons (x_for (passes_of rfl) rfl (xi_range1 (by rfl) T.n_range (os_cons (x_o (x_callB qLen (by rfl) T.n_len b_len (os_cons (x_peek 0 (pv 0)) (os_nil)))) (os_nil))) (xg_name (i := 4) nd rfl (.inl rfl)) (xss_cons (x_set (i := 5) nd rfl (.inl rfl) (x_ix hu1 (x_peek 0 (pv 0)) (x_peek 4 (pv 4)))) (xss_one (x_ifS (x_tcmp qNotN (x_peek 5 (pv 5)) (x_o (x_non))) (xss_one (x_ifS ((x_tor ((x_tand (x_tcmp (qEq hu64) (x_peek 1 (pv 1)) (x_o (x_str))) (x_and1 (x_tcmp (qEq hu64) (x_peek 5 (pv 5)) (x_peek 2 (pv 2))))).pt) (x_tor ((x_tand (x_tcmp (qEq hu64) (x_peek 1 (pv 1)) (x_o (x_str))) (x_and1 (x_tval (x_call (ok__law_less T) (hr.mono (by decide)) (by rfl) T.g__law_less T.k__law_less T.b__law_less (takes_of rfl rfl rfl rfl) (os_cons (x_peek 5 (pv 5)) (os_cons (x_peek 2 (pv 2)) (os_nil))))))).pt) (x_or1 ((x_tand (x_tcmp (qEq hu64) (x_peek 1 (pv 1)) (x_o (x_str))) (x_and1 (x_tval (x_call (ok__law_less T) (hr.mono (by decide)) (by rfl) T.g__law_less T.k__law_less T.b__law_less (takes_of rfl rfl rfl rfl) (os_cons (x_peek 2 (pv 2)) (os_cons (x_peek 5 (pv 5)) (os_nil))))))).pt)))).pt) (xss_one (x_append (i := 3) (pv 3) (x_var 4 (pv 4)))) (xss_nil))) (xss_nil))))) (xss_one (x_ret (x_mov 3 (pv 3)))))
/-- _law_refused: slots 0 way, 1 table, 2 head, 3 further, 4 other, 5 caught, 6 e, -/
noncomputable def r__law_refused (K : PySem.W.Frag) (ca : Nat → Addr) : SS := s_seq (s_set 5 (e_c .non)) (s_seq (s_try (s_if (t_of (e_op gEq (e_peek 0) (e_c (.int 0)))) (s_expr (e_call (s_column_of K ca) (es_cons (e_peek 1) (es_cons (e_peek 2) (es_nil))))) (s_if (t_of (e_op gEq (e_peek 0) (e_c (.int 1)))) (s_expr (e_call (s_fitting K ca) (es_cons (e_peek 1) (es_cons (e_peek 2) (es_cons (e_c (.str "=")) (es_cons (e_c (.int 1)) (es_nil))))))) (s_expr (e_call (s_paired_rows K ca) (es_cons (e_peek 1) (es_cons (e_peek 2) (es_cons (e_peek 3) (es_cons (e_peek 4) (es_nil))))))))) (k_cons (fun c => PySem.W.exmOne K (.ref (ca c)) (.ref (ca 0))) (k_as ca 6 (s_set 5 (e_var 6))) (k_nil))) (s_ret (e_isc K (ca 1) (e_peek 5))))
noncomputable def s__law_refused (K : PySem.W.Frag) (ca : Nat → Addr) : SF := fnS 5 7 (r__law_refused K ca)
theorem sc__law_refused : FnScope ["way", "table", "head", "further", "other", "caught", "e"] ["way", "table", "head", "further", "other"] (defScope (top 32)) := ⟨rfl, rfl, rfl, by decide +kernel, rfl, by decide +kernel, by decide +kernel⟩
theorem ok__law_refused (T : Txt K mg ca fa fd) : FnOk P w K mg base (L2.CX P w) 7 (fa 23) (fd 23) ["way", "table", "head", "further", "other"] (spOf K ca (s__law_refused K ca)) := by
  refine fn_sound T.f__law_refused sc__law_refused rfl rfl fun cdv A outer s H E X hX hr => ?_
  have hu65 : X.A.units + 65 < cLine := by have := hr.un; omega
  have hu64 : X.A.units + 64 < cLine := by omega
  have hu1 : X.A.units + 1 < cLine := by omega
  have nd := sc__law_refused.nd
  subst hX
  exact xss_cons (x_set (i := 5) nd rfl (.inl rfl) (x_non)) (xss_cons (x_try rfl rfl (fun W pn xe tk po => xss_one (x_ifS (x_tcmp (qEq hu64) (x_peek 0 (pv 0)) (x_o (x_int))) (xss_one (x_expr (x_o (x_call (ok_column_of T) (hr.mono (by decide)) (by rfl) T.g_column_of T.k_column_of T.b_column_of tk (os_cons (x_peek 1 (pv 1)) (os_cons (x_peek 2 (pv 2)) (os_nil))))))) (xss_one (x_ifS (x_tcmp (qEq hu64) (x_peek 0 (pv 0)) (x_o (x_int))) (xss_one (x_expr (x_o (x_call (ok_fitting T) (hr.mono (by decide)) (by rfl) T.g_fitting T.k_fitting T.b_fitting tk (os_cons (x_peek 1 (pv 1)) (os_cons (x_peek 2 (pv 2)) (os_cons (x_o (x_str)) (os_cons (x_o (x_int)) (os_nil))))))))) (xss_one (x_expr (x_o (x_call (ok_paired_rows T) (hr.mono (by decide)) (by rfl) T.g_paired_rows T.k_paired_rows T.b_paired_rows tk (os_cons (x_peek 1 (pv 1)) (os_cons (x_peek 2 (pv 2)) (os_cons (x_peek 3 (pv 3)) (os_cons (x_peek 4 (pv 4)) (os_nil))))))))))))) (xh_as (i := 6) (m := (fun c => PySem.W.exmOne K (.ref (ca c)) (.ref (ca 0)))) rfl nd rfl rfl ⟨by rfl, by decide, .inl T.o_SheetError.c⟩ (fun _ _ h => h) (fun _ _ => xss_one (x_set (i := 5) nd rfl (.inl rfl) (x_var 6 (pv 6)))) (xh_nil rfl rfl (takes_of rfl rfl rfl rfl)))) (xss_one (x_ret (x_isc (by rfl) T.n_isinstance b_isinstance (by rfl) T.o_NoColumn.c (x_peek 5 (pv 5))))))
/-- _law_pairs: slots 0 mine, 1 yours, 2 found, 3 one, 4 two, -/
noncomputable def r__law_pairs (K : PySem.W.Frag) (ca : Nat → Addr) : SS := s_seq (s_set 2 (e_lst (es_nil))) (s_seq (s_for (i_range gRange1 (es_cons (e_callB gLen (es_cons (e_peek 0) (es_nil))) (es_nil))) (g_name 3) (s_for (i_range gRange1 (es_cons (e_callB gLen (es_cons (e_peek 1) (es_nil))) (es_nil))) (g_name 4) (s_if (t_and (t_of (e_op gNotN (e_ix (e_peek 0) (e_peek 3)) (e_c .non))) (t_of (e_op gEq (e_ix (e_peek 0) (e_peek 3)) (e_ix (e_peek 1) (e_peek 4))))) (s_append 2 (e_tup (es_cons (e_var 3) (es_cons (e_var 4) (es_nil))))) (s_nil)))) (s_ret (e_mov 2)))
noncomputable def s__law_pairs (K : PySem.W.Frag) (ca : Nat → Addr) : SF := fnS 2 5 (r__law_pairs K ca)
theorem sc__law_pairs : FnScope ["mine", "yours", "found", "one", "two"] ["mine", "yours"] (defScope (top 33)) := ⟨rfl, rfl, rfl, by decide +kernel, rfl, by decide +kernel, by decide +kernel⟩
theorem ok__law_pairs (T : Txt K mg ca fa fd) : FnOk P w K mg base (L2.CX P w) 1 (fa 24) (fd 24) ["mine", "yours"] (spOf K ca (s__law_pairs K ca)) := by
  refine fn_sound T.f__law_pairs sc__law_pairs rfl rfl fun cdv A outer s H E X hX hr => ?_
  have hu65 : X.A.units + 65 < cLine := by have := hr.un; omega
  have hu64 : X.A.units + 64 < cLine := by omega
  have hu1 : X.A.units + 1 < cLine := by omega
  have nd := sc__law_pairs.nd
  subst hX
  exact xss_cons (x_set (i := 2) nd rfl (.inl rfl) (x_lst (xs_nil))) (xss_cons (x_for (passes_of rfl) rfl (xi_range1 (by rfl) T.n_range (os_cons (x_o (x_callB qLen (by rfl) T.n_len b_len (os_cons (x_peek 0 (pv 0)) (os_nil)))) (os_nil))) (xg_name (i := 3) nd rfl (.inl rfl)) (xss_one (x_for (passes_of rfl) rfl (xi_range1 (by rfl) T.n_range (os_cons (x_o (x_callB qLen (by rfl) T.n_len b_len (os_cons (x_peek 1 (pv 1)) (os_nil)))) (os_nil))) (xg_name (i := 4) nd rfl (.inl rfl)) (xss_one (x_ifS ((x_tand (x_tcmp qNotN (x_o (x_ix hu1 (x_peek 0 (pv 0)) (x_peek 3 (pv 3)))) (x_o (x_non))) (x_and1 (x_tcmp (qEq hu64) (x_o (x_ix hu1 (x_peek 0 (pv 0)) (x_peek 3 (pv 3)))) (x_o (x_ix hu1 (x_peek 1 (pv 1)) (x_peek 4 (pv 4))))))).pt) (xss_one (x_append (i := 2) (pv 2) (x_tup (xs_cons (x_var 3 (pv 3)) (xs_cons (x_var 4 (pv 4)) (xs_nil)))))) (xss_nil)))))) (xss_one (x_ret (x_mov 2 (pv 2)))))
/-- _law_paired: slots 0 table, 1 further, 2 head, 3 mine, 4 other, 5 due, 6 found, 7 row, -/
noncomputable def r__law_paired (K : PySem.W.Frag) (ca : Nat → Addr) : SS := s_seq (s_for (i_of (e_ix (e_peek 0) (e_c (.int 0)))) (g_name 2) (s_seq (s_asg (g_name 3) (e_lc [7] (i_of (e_ix (e_peek 0) (e_c (.int 1)))) (g_name 7) (t_yes) (e_ix (e_peek 7) (e_tidx (e_ix (e_peek 0) (e_c (.int 0))) (e_peek 2))))) (s_seq (s_for (i_of (e_ix (e_peek 1) (e_c (.int 0)))) (g_name 4) (s_seq (s_set 5 (e_call (s__law_pairs K ca) (es_cons (e_peek 3) (es_cons (e_lc [7] (i_of (e_ix (e_peek 1) (e_c (.int 1)))) (g_name 7) (t_yes) (e_ix (e_peek 7) (e_tidx (e_ix (e_peek 1) (e_c (.int 0))) (e_peek 4)))) (es_nil))))) (s_seq (s_set 6 (e_call (s_paired_rows K ca) (es_cons (e_peek 0) (es_cons (e_peek 2) (es_cons (e_peek 1) (es_cons (e_peek 4) (es_nil))))))) (s_seq (s_if (t_or (t_not (t_of (e_isi "list" (e_peek 6)))) (t_of (e_op gNe (e_peek 6) (e_peek 5)))) (s_ret (e_c (.bl false))) (s_nil)) (s_seq (s_append 6 (e_tup (es_cons (e_c (.int 0)) (es_cons (e_c (.int 0)) (es_nil))))) (s_if (t_of (e_op gNe (e_call (s_paired_rows K ca) (es_cons (e_peek 0) (es_cons (e_peek 2) (es_cons (e_peek 1) (es_cons (e_peek 4) (es_nil)))))) (e_peek 5))) (s_ret (e_c (.bl false))) (s_nil))))))) (s_if (t_or (t_not (t_of (e_call (s__law_refused K ca) (es_cons (e_c (.int 2)) (es_cons (e_peek 0) (es_cons (e_peek 2) (es_cons (e_peek 1) (es_cons (e_c (.str "z")) (es_nil))))))))) (t_not (t_of (e_call (s__law_refused K ca) (es_cons (e_c (.int 2)) (es_cons (e_peek 0) (es_cons (e_c (.str "z")) (es_cons (e_peek 1) (es_cons (e_ix (e_ix (e_peek 1) (e_c (.int 0))) (e_c (.int 0))) (es_nil)))))))))) (s_ret (e_c (.bl false))) (s_nil))))) (s_ret (e_call (s__law_refused K ca) (es_cons (e_c (.int 2)) (es_cons (e_peek 0) (es_cons (e_c (.str "z")) (es_cons (e_peek 1) (es_cons (e_c (.str "zz")) (es_nil))))))))
noncomputable def s__law_paired (K : PySem.W.Frag) (ca : Nat → Addr) : SF := fnS 2 8 (r__law_paired K ca)
theorem sc__law_paired : FnScope ["table", "further", "head", "mine", "other", "due", "found", "row"] ["table", "further"] (defScope (top 34)) := ⟨rfl, rfl, rfl, by decide +kernel, rfl, by decide +kernel, by decide +kernel⟩
theorem ok__law_paired (T : Txt K mg ca fa fd) : FnOk P w K mg base (L2.CX P w) 8 (fa 25) (fd 25) ["table", "further"] (spOf K ca (s__law_paired K ca)) := by
  refine fn_sound T.f__law_paired sc__law_paired rfl rfl fun cdv A outer s H E X hX hr => ?_
  have hu65 : X.A.units + 65 < cLine := by have := hr.un; omega
  have hu64 : X.A.units + 64 < cLine := by omega
  have hu1 : X.A.units + 1 < cLine := by omega
  have nd := sc__law_paired.nd
  subst hX
  exact xss_cons (x_for (passes_of rfl) rfl (xi_of (x_ix hu1 (x_peek 0 (pv 0)) (x_o (x_int)))) (xg_name (i := 2) nd rfl (.inr rfl)) (xss_cons (x_setLc (i := 3) (own := [("row", 7)]) rfl nd rfl rfl (sw_true rfl rfl rfl (by decide +kernel)) (xi_of (x_ix hu1 (x_peek 0 (pv 0)) (x_o (x_int)))) (blkOk_by (N := ["table", "further", "head", "mine", "other", "due", "found", "row"]) (sc := defScope (top 34)) (by decide +kernel)) (fun _ _ _ _ _ => vg_name (i := 7) nd rfl (.inl rfl)) (fun _ _ _ _ _ => xts_nil) (fun _ _ _ _ _ => x_ix hu1 (x_peek 7 (pv 7)) (x_o (x_tidx (x_o (x_ix hu1 (x_peek 0 (pv 0)) (x_o (x_int)))) (x_peek 2 (pv 2)))))) (xss_cons (x_for (passes_of rfl) rfl (xi_of (x_ix hu1 (x_peek 1 (pv 1)) (x_o (x_int)))) (xg_name (i := 4) nd rfl (.inr rfl)) (xss_cons (x_set (i := 5) nd rfl (.inl rfl) (x_call (ok__law_pairs T) (hr.mono (by decide)) (by rfl) T.g__law_pairs T.k__law_pairs T.b__law_pairs (takes_of rfl rfl rfl rfl) (os_cons (x_peek 3 (pv 3)) (os_cons (x_o (x_lc (own := [("row", 7)]) rfl nd (xi_of (x_ix hu1 (x_peek 1 (pv 1)) (x_o (x_int)))) (blkOk_by (N := ["table", "further", "head", "mine", "other", "due", "found", "row"]) (sc := defScope (top 34)) (by decide +kernel)) (fun _ _ _ _ _ => vg_name (i := 7) nd rfl (.inl rfl)) (fun _ _ _ _ _ => xts_nil) (fun _ _ _ _ _ => x_ix hu1 (x_peek 7 (pv 7)) (x_o (x_tidx (x_o (x_ix hu1 (x_peek 1 (pv 1)) (x_o (x_int)))) (x_peek 4 (pv 4))))))) (os_nil))))) (xss_cons (x_set (i := 6) nd rfl (.inl rfl) (x_call (ok_paired_rows T) (hr.mono (by decide)) (by rfl) T.g_paired_rows T.k_paired_rows T.b_paired_rows (takes_of rfl rfl rfl rfl) (os_cons (x_peek 0 (pv 0)) (os_cons (x_peek 2 (pv 2)) (os_cons (x_peek 1 (pv 1)) (os_cons (x_peek 4 (pv 4)) (os_nil))))))) (xss_cons (x_ifS ((x_tor (x_tnot (x_tval (x_isi (by rfl) T.n_isinstance b_isinstance (by rfl) T.n_list b_list (x_peek 6 (pv 6))))) (x_or1 (x_tcmp (qNe hu64) (x_peek 6 (pv 6)) (x_peek 5 (pv 5))))).pt) (xss_one (x_ret (x_bl))) (xss_nil)) (xss_cons (x_append (i := 6) (pv 6) (x_tup (xs_cons (x_int) (xs_cons (x_int) (xs_nil))))) (xss_one (x_ifS (x_tcmp (qNe hu64) (x_o (x_call (ok_paired_rows T) (hr.mono (by decide)) (by rfl) T.g_paired_rows T.k_paired_rows T.b_paired_rows (takes_of rfl rfl rfl rfl) (os_cons (x_peek 0 (pv 0)) (os_cons (x_peek 2 (pv 2)) (os_cons (x_peek 1 (pv 1)) (os_cons (x_peek 4 (pv 4)) (os_nil))))))) (x_peek 5 (pv 5))) (xss_one (x_ret (x_bl))) (xss_nil)))))))) (xss_one (x_ifS ((x_tor (x_tnot (x_tval (x_call (ok__law_refused T) (hr.mono (by decide)) (by rfl) T.g__law_refused T.k__law_refused T.b__law_refused (takes_of rfl rfl rfl rfl) (os_cons (x_o (x_int)) (os_cons (x_peek 0 (pv 0)) (os_cons (x_peek 2 (pv 2)) (os_cons (x_peek 1 (pv 1)) (os_cons (x_o (x_str)) (os_nil))))))))) (x_or1 (x_tnot (x_tval (x_call (ok__law_refused T) (hr.mono (by decide)) (by rfl) T.g__law_refused T.k__law_refused T.b__law_refused (takes_of rfl rfl rfl rfl) (os_cons (x_o (x_int)) (os_cons (x_peek 0 (pv 0)) (os_cons (x_o (x_str)) (os_cons (x_peek 1 (pv 1)) (os_cons (x_o (x_ix hu1 (x_o (x_ix hu1 (x_peek 1 (pv 1)) (x_o (x_int)))) (x_o (x_int)))) (os_nil))))))))))).pt) (xss_one (x_ret (x_bl))) (xss_nil)))))) (xss_one (x_ret (x_call (ok__law_refused T) (hr.mono (by decide)) (by rfl) T.g__law_refused T.k__law_refused T.b__law_refused (takes_of rfl rfl rfl rfl) (os_cons (x_o (x_int)) (os_cons (x_peek 0 (pv 0)) (os_cons (x_o (x_str)) (os_cons (x_peek 1 (pv 1)) (os_cons (x_o (x_str)) (os_nil)))))))))
/-- law: slots 0 script, 1 table, 2 heads, 3 rows, 4 at, 5 due, 6 found, 7 op, 8 key, 9 told, 10 head, 11 row, -/
noncomputable def r_law (K : PySem.W.Frag) (ca : Nat → Addr) : SS := s_seq (s_set 1 (e_call (s__law_table K ca) (es_cons (e_peek 0) (es_cons (e_c (.int 0)) (es_cons (e_c (.int 12)) (es_nil)))))) (s_seq (s_asg (g_tup (g_cons (g_name 2) (g_cons (g_name 3) (g_nil)))) (e_var 1)) (s_seq (s_for (i_range gRange1 (es_cons (e_callB gLen (es_cons (e_peek 2) (es_nil))) (es_nil))) (g_name 4) (s_seq (s_asg (g_name 5) (e_lc [11] (i_of (e_var 3)) (g_name 11) (t_yes) (e_ix (e_peek 11) (e_peek 4)))) (s_seq (s_set 6 (e_call (s_column_of K ca) (es_cons (e_peek 1) (es_cons (e_ix (e_peek 2) (e_peek 4)) (es_nil))))) (s_seq (s_if (t_or (t_not (t_of (e_isi "list" (e_peek 6)))) (t_of (e_op gNe (e_peek 6) (e_peek 5)))) (s_ret (e_c (.bl false))) (s_nil)) (s_seq (s_append 6 (e_c (.int 7))) (s_seq (s_if (t_of (e_op gNe (e_call (s_column_of K ca) (es_cons (e_peek 1) (es_cons (e_ix (e_peek 2) (e_peek 4)) (es_nil)))) (e_peek 5))) (s_ret (e_c (.bl false))) (s_nil)) (s_for (i_of (e_lst (es_cons (e_c (.str "=")) (es_cons (e_c (.str "<")) (es_cons (e_c (.str ">")) (es_nil)))))) (g_name 7) (s_for (i_of (e_lst (es_cons (e_c (.int 0)) (es_cons (e_c (.int 1)) (es_cons (e_c (.int 2)) (es_cons (e_un gNeg (e_c (.int 1))) (es_cons (e_c (.str "a")) (es_cons (e_c (.str "b")) (es_cons (e_c (.str "ab")) (es_cons (e_c (.str "")) (es_cons (e_op gPow (e_c (.int 10)) (e_c (.int 60))) (es_cons (e_un gNeg (e_op gPow (e_c (.int 10)) (e_c (.int 60)))) (es_cons (e_c (.str "1")) (es_cons (e_op gMul (e_c (.str "x")) (e_c (.int 200))) (es_cons (e_c (.int 3)) (es_nil)))))))))))))))) (g_name 8) (s_seq (s_set 9 (e_call (s_fitting K ca) (es_cons (e_peek 1) (es_cons (e_ix (e_peek 2) (e_peek 4)) (es_cons (e_peek 7) (es_cons (e_peek 8) (es_nil))))))) (s_if (t_or (t_not (t_of (e_isi "list" (e_peek 9)))) (t_of (e_op gNe (e_peek 9) (e_call (s__law_due K ca) (es_cons (e_peek 5) (es_cons (e_peek 7) (es_cons (e_peek 8) (es_nil)))))))) (s_ret (e_c (.bl false))) (s_nil))))))))))) (s_seq (s_for (i_of (e_lst (es_cons (e_c (.str "")) (es_cons (e_c (.str "z")) (es_cons (e_c (.str "A")) (es_cons (e_c (.str "aba")) (es_nil))))))) (g_name 10) (s_if (t_or (t_not (t_of (e_call (s__law_refused K ca) (es_cons (e_c (.int 0)) (es_cons (e_peek 1) (es_cons (e_peek 10) (es_cons (e_peek 1) (es_cons (e_peek 10) (es_nil))))))))) (t_not (t_of (e_call (s__law_refused K ca) (es_cons (e_c (.int 1)) (es_cons (e_peek 1) (es_cons (e_peek 10) (es_cons (e_peek 1) (es_cons (e_peek 10) (es_nil)))))))))) (s_ret (e_c (.bl false))) (s_nil))) (s_ret (e_call (s__law_paired K ca) (es_cons (e_peek 1) (es_cons (e_call (s__law_table K ca) (es_cons (e_peek 0) (es_cons (e_c (.int 1)) (es_cons (e_c (.int 8)) (es_nil))))) (es_nil))))))))
noncomputable def s_law (K : PySem.W.Frag) (ca : Nat → Addr) : SF := fnS 1 12 (r_law K ca)
theorem sc_law : FnScope ["script", "table", "heads", "rows", "at", "due", "found", "op", "key", "told", "head", "row"] ["script"] (defScope (top 35)) := ⟨rfl, rfl, rfl, by decide +kernel, rfl, by decide +kernel, by decide +kernel⟩
theorem ok_law (T : Txt K mg ca fa fd) : FnOk P w K mg base (L2.CX P w) 9 (fa 26) (fd 26) ["script"] (spOf K ca (s_law K ca)) := by
  refine fn_sound T.f_law sc_law rfl rfl fun cdv A outer s H E X hX hr => ?_
  have hu65 : X.A.units + 65 < cLine := by have := hr.un; omega
  have hu64 : X.A.units + 64 < cLine := by omega
  have hu1 : X.A.units + 1 < cLine := by omega
  have nd := sc_law.nd
  subst hX
  exact xss_cons (x_set (i := 1) nd rfl (.inl rfl) (x_call (ok__law_table T) (hr.mono (by decide)) (by rfl) T.g__law_table T.k__law_table T.b__law_table (takes_of rfl rfl rfl rfl) (os_cons (x_peek 0 (pv 0)) (os_cons (x_o (x_int)) (os_cons (x_o (x_int)) (os_nil)))))) (xss_cons (x_asg (x_var 1 (pv 1)) (xg_tup (n := 2) rfl (xgs_cons (i := 2) nd rfl (.inl rfl) (xgs_cons (i := 3) nd rfl (.inl rfl) (xgs_nil))) g_len2)) (xss_cons (x_for (passes_of rfl) rfl (xi_range1 (by rfl) T.n_range (os_cons (x_o (x_callB qLen (by rfl) T.n_len b_len (os_cons (x_peek 2 (pv 2)) (os_nil)))) (os_nil))) (xg_name (i := 4) nd rfl (.inr rfl)) (xss_cons (x_setLc (i := 5) (own := [("row", 11)]) rfl nd rfl rfl (sw_true rfl rfl rfl (by decide +kernel)) (xi_of (x_var 3 (pv 3))) (blkOk_by (N := ["script", "table", "heads", "rows", "at", "due", "found", "op", "key", "told", "head", "row"]) (sc := defScope (top 35)) (by decide +kernel)) (fun _ _ _ _ _ => vg_name (i := 11) nd rfl (.inl rfl)) (fun _ _ _ _ _ => xts_nil) (fun _ _ _ _ _ => x_ix hu1 (x_peek 11 (pv 11)) (x_peek 4 (pv 4)))) (xss_cons (x_set (i := 6) nd rfl (.inl rfl) (x_call (ok_column_of T) (hr.mono (by decide)) (by rfl) T.g_column_of T.k_column_of T.b_column_of (takes_of rfl rfl rfl rfl) (os_cons (x_peek 1 (pv 1)) (os_cons (x_o (x_ix hu1 (x_peek 2 (pv 2)) (x_peek 4 (pv 4)))) (os_nil))))) (xss_cons (x_ifS ((x_tor (x_tnot (x_tval (x_isi (by rfl) T.n_isinstance b_isinstance (by rfl) T.n_list b_list (x_peek 6 (pv 6))))) (x_or1 (x_tcmp (qNe hu64) (x_peek 6 (pv 6)) (x_peek 5 (pv 5))))).pt) (xss_one (x_ret (x_bl))) (xss_nil)) (xss_cons (x_append (i := 6) (pv 6) (x_int)) (xss_cons (x_ifS (x_tcmp (qNe hu64) (x_o (x_call (ok_column_of T) (hr.mono (by decide)) (by rfl) T.g_column_of T.k_column_of T.b_column_of (takes_of rfl rfl rfl rfl) (os_cons (x_peek 1 (pv 1)) (os_cons (x_o (x_ix hu1 (x_peek 2 (pv 2)) (x_peek 4 (pv 4)))) (os_nil))))) (x_peek 5 (pv 5))) (xss_one (x_ret (x_bl))) (xss_nil)) (xss_one (x_for (passes_of rfl) rfl (xi_of (x_lst (xs_cons (x_str) (xs_cons (x_str) (xs_cons (x_str) (xs_nil)))))) (xg_name (i := 7) nd rfl (.inl rfl)) (xss_one (x_for (passes_of rfl) rfl (xi_of (x_lst (xs_cons (x_int) (xs_cons (x_int) (xs_cons (x_int) (xs_cons (x_un qNeg (x_o (x_int))) (xs_cons (x_str) (xs_cons (x_str) (xs_cons (x_str) (xs_cons (x_str) (xs_cons (x_op qPow (x_o (x_int)) (x_o (x_int))) (xs_cons (x_un qNeg (x_o (x_op qPow (x_o (x_int)) (x_o (x_int))))) (xs_cons (x_str) (xs_cons (x_op qMul (x_o (x_str)) (x_o (x_int))) (xs_cons (x_int) (xs_nil)))))))))))))))) (xg_name (i := 8) nd rfl (.inl rfl)) (xss_cons (x_set (i := 9) nd rfl (.inl rfl) (x_call (ok_fitting T) (hr.mono (by decide)) (by rfl) T.g_fitting T.k_fitting T.b_fitting (takes_of rfl rfl rfl rfl) (os_cons (x_peek 1 (pv 1)) (os_cons (x_o (x_ix hu1 (x_peek 2 (pv 2)) (x_peek 4 (pv 4)))) (os_cons (x_peek 7 (pv 7)) (os_cons (x_peek 8 (pv 8)) (os_nil))))))) (xss_one (x_ifS ((x_tor (x_tnot (x_tval (x_isi (by rfl) T.n_isinstance b_isinstance (by rfl) T.n_list b_list (x_peek 9 (pv 9))))) (x_or1 (x_tcmp (qNe hu64) (x_peek 9 (pv 9)) (x_o (x_call (ok__law_due T) (hr.mono (by decide)) (by rfl) T.g__law_due T.k__law_due T.b__law_due (takes_of rfl rfl rfl rfl) (os_cons (x_peek 5 (pv 5)) (os_cons (x_peek 7 (pv 7)) (os_cons (x_peek 8 (pv 8)) (os_nil))))))))).pt) (xss_one (x_ret (x_bl))) (xss_nil)))))))))))))) (xss_cons (x_for (passes_of rfl) rfl (xi_of (x_lst (xs_cons (x_str) (xs_cons (x_str) (xs_cons (x_str) (xs_cons (x_str) (xs_nil))))))) (xg_name (i := 10) nd rfl (.inl rfl)) (xss_one (x_ifS ((x_tor (x_tnot (x_tval (x_call (ok__law_refused T) (hr.mono (by decide)) (by rfl) T.g__law_refused T.k__law_refused T.b__law_refused (takes_of rfl rfl rfl rfl) (os_cons (x_o (x_int)) (os_cons (x_peek 1 (pv 1)) (os_cons (x_peek 10 (pv 10)) (os_cons (x_peek 1 (pv 1)) (os_cons (x_peek 10 (pv 10)) (os_nil))))))))) (x_or1 (x_tnot (x_tval (x_call (ok__law_refused T) (hr.mono (by decide)) (by rfl) T.g__law_refused T.k__law_refused T.b__law_refused (takes_of rfl rfl rfl rfl) (os_cons (x_o (x_int)) (os_cons (x_peek 1 (pv 1)) (os_cons (x_peek 10 (pv 10)) (os_cons (x_peek 1 (pv 1)) (os_cons (x_peek 10 (pv 10)) (os_nil))))))))))).pt) (xss_one (x_ret (x_bl))) (xss_nil)))) (xss_one (x_ret (x_call (ok__law_paired T) (hr.mono (by decide)) (by rfl) T.g__law_paired T.k__law_paired T.b__law_paired (takes_of rfl rfl rfl rfl) (os_cons (x_peek 1 (pv 1)) (os_cons (x_o (x_call (ok__law_table T) (hr.mono (by decide)) (by rfl) T.g__law_table T.k__law_table T.b__law_table (takes_of rfl rfl rfl rfl) (os_cons (x_peek 0 (pv 0)) (os_cons (x_o (x_int)) (os_cons (x_o (x_int)) (os_nil)))))) (os_nil)))))))))
end
end Gk72

namespace Gk72
open PySem PySem.Spec OL
section
variable {K : PySem.W.Frag} {ca : Nat → Addr}
theorem p_mix (c k : Int) (hk : 0 ≤ k) (hk2 : k < 1000000) : ∃ m : Int, s__law_mix K ca [.int c, .int k] = .ok (.int m) ∧ 0 ≤ m := by
  have a1 := Int.emod_nonneg c (show (1000000007 : Int) ≠ 0 by decide)
  have a2 := Int.emod_lt_of_pos c (show (0 : Int) < 1000000007 by decide)
  have b1 : 0 ≤ (k + 1) * (k + 1) := Int.mul_nonneg (by omega) (by omega)
  have b2 : (k + 1) * (k + 1) ≤ 1000000 * 1000000 := Int.mul_le_mul (by omega) (by omega) (by omega) (by omega)
  have b3 : ((k + 1) * (k + 1)).natAbs < 2 ^ 100 := by omega
  have b4 : (c % 1000000007).natAbs < 2 ^ 100 := by omega
  have b5 : (k + 1).natAbs < 2 ^ 100 := by omega
  unfold s__law_mix r__law_mix
  simp only [ev_fn, ev_start, ev_seq, ev_nil, ev_nx, ev_rt, ev_bk, ev_ct, ev_ex, ev_ono, ev_onx, ev_ort, ev_oex, ev_set, ev_ret, ev_if, ev_expr, ev_raise, ev_c, ev_peek, ev_var, ev_mov, ev_op, ev_ix, ev_un, ev_isi, ev_callB, ev_call, ev_callF, ev_esn, ev_esc, ev_tup, ev_lst, ev_tof, ev_and, ev_or, ev_not, ev_yes, ev_eand, ev_eor, ev_eif, ev_chain, ev_sl, ev_pn, ev_ps, ev_lc, ev_asg, ev_gn, ev_gt, ev_gc, ev_gnil, ev_for, ev_while, ev_range, ev_iof, ev_ienum, ev_append, ev_tidx, ev_isc, ev_try, ev_add, ev_sub, re_bok, re_bex, re_bno, re_of, re_sok, re_sex, re_sno, List.map_cons, List.map_nil, List.length_cons, List.length_nil, List.replicate_succ, List.replicate_zero, List.cons_append, List.nil_append, List.getElem?_cons_zero, List.getElem?_cons_succ, List.getElem?_nil, List.set_cons_zero, List.set_cons_succ, List.set_nil, Nat.reduceAdd, Nat.reduceSub, Nat.reduceEqDiff, ↓reduceIte, Bool.not_true, Bool.not_false, Bool.false_eq_true, D.frz, D.frzs, eq_int, ne_int, eq_bl, ne_bl, decide_true, decide_false, Option.bind_some, Option.map_some, wipeE, v_isN, v_notN, non_int, non_str, non_non, true_or, or_true, D.clean, D.cleans, D.ownss, D.owns, Bool.or_false, Bool.false_or, Bool.and_true, Bool.true_and, v_add, v_sub, v_lt, v_le, v_gt, v_ge, v_neg, v_lenL, v_lenT, v_lts, v_mod (show (0 : Int) < 1000000007 by decide), v_mod (show (0 : Int) < 2147483647 by decide), v_mod (show (0 : Int) < 2147483629 by decide), v_div (show (0 : Int) < 8 by decide) (by decide),
    v_mul b4 (show (48271 : Int).natAbs < 2 ^ 100 by decide), v_mul b5 b5, v_mul b3 (show (69621 : Int).natAbs < 2 ^ 100 by decide)]
  generalize (c % 1000000007 * 48271 + (k + 1) * (k + 1) * 69621) = z
  have c1 := Int.emod_nonneg z (show (2147483647 : Int) ≠ 0 by decide)
  have c2 := Int.emod_lt_of_pos z (show (0 : Int) < 2147483647 by decide)
  have c3 : (z % 2147483647).natAbs < 2 ^ 100 := by omega
  simp only [v_mul c3 c3, ev_fn, ev_start, ev_seq, ev_nil, ev_nx, ev_rt, ev_bk, ev_ct, ev_ex, ev_ono, ev_onx, ev_ort, ev_oex, ev_set, ev_ret, ev_if, ev_expr, ev_raise, ev_c, ev_peek, ev_var, ev_mov, ev_op, ev_ix, ev_un, ev_isi, ev_callB, ev_call, ev_callF, ev_esn, ev_esc, ev_tup, ev_lst, ev_tof, ev_and, ev_or, ev_not, ev_yes, ev_eand, ev_eor, ev_eif, ev_chain, ev_sl, ev_pn, ev_ps, ev_lc, ev_asg, ev_gn, ev_gt, ev_gc, ev_gnil, ev_for, ev_while, ev_range, ev_iof, ev_ienum, ev_append, ev_tidx, ev_isc, ev_try, ev_add, ev_sub, re_bok, re_bex, re_bno, re_of, re_sok, re_sex, re_sno, List.map_cons, List.map_nil, List.length_cons, List.length_nil, List.replicate_succ, List.replicate_zero, List.cons_append, List.nil_append, List.getElem?_cons_zero, List.getElem?_cons_succ, List.getElem?_nil, List.set_cons_zero, List.set_cons_succ, List.set_nil, Nat.reduceAdd, Nat.reduceSub, Nat.reduceEqDiff, ↓reduceIte, Bool.not_true, Bool.not_false, Bool.false_eq_true, D.frz, D.frzs, eq_int, ne_int, eq_bl, ne_bl, decide_true, decide_false, Option.bind_some, Option.map_some, wipeE, v_isN, v_notN, non_int, non_str, non_non, true_or, or_true, D.clean, D.cleans, D.ownss, D.owns, Bool.or_false, Bool.false_or, Bool.and_true, Bool.true_and, v_add, v_sub, v_lt, v_le, v_gt, v_ge, v_neg, v_lenL, v_lenT, v_lts, v_mod (show (0 : Int) < 2147483629 by decide), v_div (show (0 : Int) < 8 by decide) (by decide)]
  refine ⟨_, rfl, Int.ediv_nonneg (Int.emod_nonneg _ (by decide)) (by decide)⟩
/-- digits below size -/
def Digs (size : Nat) (ds : List D) : Prop := ∀ d ∈ ds, ∃ i : Nat, d = .int (i : Nat) ∧ i < size
theorem dig_w {size : Nat} {ds : List D} (h : Digs size ds) : ∀ d ∈ ds, isW d := fun d hd => by
  obtain ⟨i, rfl, _⟩ := h d hd
  trivial
theorem mod_dig (z : Int) {size : Nat} (h : 0 < size) : ∃ i : Nat, (z % (size : Int)) = (i : Nat) ∧ i < size := by
  have h1 := Int.emod_nonneg z (show (size : Int) ≠ 0 by omega)
  have h2 := Int.emod_lt_of_pos z (show (0 : Int) < size by omega)
  exact ⟨(z % size).toNat, by omega, by omega⟩
theorem p_digits (c : Int) (size many : Nat) (hs : 0 < size) (hs2 : size < 1000) (hm : many < 1000) : ∃ ds, s__law_digits K ca [.int c, .int (size : Nat), .int (many : Nat)] = .ok (.lst true ds) ∧ ds.length = many ∧ Digs size ds := by
  have hz : (0 : Int) < (size : Int) := by omega
  have hz2 : (size : Int) < 1073741824 := by omega
  unfold s__law_digits r__law_digits
  simp only [ev_fn, ev_start, ev_seq, ev_nil, ev_nx, ev_rt, ev_bk, ev_ct, ev_ex, ev_ono, ev_onx, ev_ort, ev_oex, ev_set, ev_ret, ev_if, ev_expr, ev_raise, ev_c, ev_peek, ev_var, ev_mov, ev_op, ev_ix, ev_un, ev_isi, ev_callB, ev_call, ev_callF, ev_esn, ev_esc, ev_tup, ev_lst, ev_tof, ev_and, ev_or, ev_not, ev_yes, ev_eand, ev_eor, ev_eif, ev_chain, ev_sl, ev_pn, ev_ps, ev_lc, ev_asg, ev_gn, ev_gt, ev_gc, ev_gnil, ev_for, ev_while, ev_range, ev_iof, ev_ienum, ev_append, ev_tidx, ev_isc, ev_try, ev_add, ev_sub, re_bok, re_bex, re_bno, re_of, re_sok, re_sex, re_sno, List.map_cons, List.map_nil, List.length_cons, List.length_nil, List.replicate_succ, List.replicate_zero, List.cons_append, List.nil_append, List.getElem?_cons_zero, List.getElem?_cons_succ, List.getElem?_nil, List.set_cons_zero, List.set_cons_succ, List.set_nil, Nat.reduceAdd, Nat.reduceSub, Nat.reduceEqDiff, ↓reduceIte, Bool.not_true, Bool.not_false, Bool.false_eq_true, D.frz, D.frzs, eq_int, ne_int, eq_bl, ne_bl, decide_true, decide_false, Option.bind_some, Option.map_some, wipeE, v_isN, v_notN, non_int, non_str, non_non, true_or, or_true, D.clean, D.cleans, D.ownss, D.owns, Bool.or_false, Bool.false_or, Bool.and_true, Bool.true_and, v_add, v_sub, v_lt, v_le, v_gt, v_ge, v_neg, v_lenL, v_lenT, v_lts, v_mod (show (0 : Int) < 2 by decide), v_div (show (0 : Int) < 2 by decide) (by decide), v_range (show many < 2 ^ 62 by omega), rangeD_nats, Nat.zero_le]
  by_cases e : c % 2 = 1
  · simp only [decide_eq_true e, ev_fn, ev_start, ev_seq, ev_nil, ev_nx, ev_rt, ev_bk, ev_ct, ev_ex, ev_ono, ev_onx, ev_ort, ev_oex, ev_set, ev_ret, ev_if, ev_expr, ev_raise, ev_c, ev_peek, ev_var, ev_mov, ev_op, ev_ix, ev_un, ev_isi, ev_callB, ev_call, ev_callF, ev_esn, ev_esc, ev_tup, ev_lst, ev_tof, ev_and, ev_or, ev_not, ev_yes, ev_eand, ev_eor, ev_eif, ev_chain, ev_sl, ev_pn, ev_ps, ev_lc, ev_asg, ev_gn, ev_gt, ev_gc, ev_gnil, ev_for, ev_while, ev_range, ev_iof, ev_ienum, ev_append, ev_tidx, ev_isc, ev_try, ev_add, ev_sub, re_bok, re_bex, re_bno, re_of, re_sok, re_sex, re_sno, List.map_cons, List.map_nil, List.length_cons, List.length_nil, List.replicate_succ, List.replicate_zero, List.cons_append, List.nil_append, List.getElem?_cons_zero, List.getElem?_cons_succ, List.getElem?_nil, List.set_cons_zero, List.set_cons_succ, List.set_nil, Nat.reduceAdd, Nat.reduceSub, Nat.reduceEqDiff, ↓reduceIte, Bool.not_true, Bool.not_false, Bool.false_eq_true, D.frz, D.frzs, eq_int, ne_int, eq_bl, ne_bl, decide_true, decide_false, Option.bind_some, Option.map_some, wipeE, v_isN, v_notN, non_int, non_str, non_non, true_or, or_true, D.clean, D.cleans, D.ownss, D.owns, Bool.or_false, Bool.false_or, Bool.and_true, Bool.true_and, v_add, v_sub, v_lt, v_le, v_gt, v_ge, v_neg, v_lenL, v_lenT, v_lts]
    obtain ⟨ρ', h1, h2⟩ := forL_run (g := g_name 5) (b := s_seq (s_append 3 (e_op gMod (e_peek 4) (e_peek 1))) (s_set 4 (e_op gDiv (e_peek 4) (e_peek 1)))) (ds := natsD many) (ρ := [some (.int c), some (.int (size : Nat)), some (.int (many : Nat)), some (.lst true []), some (.int (c / 2)), none])
      (fun rest ρ => ∃ xs r o, ρ = [some (.int c), some (.int (size : Nat)), some (.int (many : Nat)), some (.lst true xs), some (.int r), o] ∧ xs.length + rest.length = many ∧ Digs size xs) (fun d ds ρ ⟨xs, r, o, hρ, hl, hd⟩ => by
        subst hρ
        rw [List.length_cons] at hl
        have hlt : xs.length < sizeLine := sz_lt (by omega)
        obtain ⟨i, hi, hi2⟩ := mod_dig r hs
        refine ⟨_, _, rfl, .inl ?_, xs ++ [.int (r % size)], r / size, some d, rfl, by rw [List.length_append, List.length_singleton]; omega, fun x hx => ?_⟩
        · simp only [ev_fn, ev_start, ev_seq, ev_nil, ev_nx, ev_rt, ev_bk, ev_ct, ev_ex, ev_ono, ev_onx, ev_ort, ev_oex, ev_set, ev_ret, ev_if, ev_expr, ev_raise, ev_c, ev_peek, ev_var, ev_mov, ev_op, ev_ix, ev_un, ev_isi, ev_callB, ev_call, ev_callF, ev_esn, ev_esc, ev_tup, ev_lst, ev_tof, ev_and, ev_or, ev_not, ev_yes, ev_eand, ev_eor, ev_eif, ev_chain, ev_sl, ev_pn, ev_ps, ev_lc, ev_asg, ev_gn, ev_gt, ev_gc, ev_gnil, ev_for, ev_while, ev_range, ev_iof, ev_ienum, ev_append, ev_tidx, ev_isc, ev_try, ev_add, ev_sub, re_bok, re_bex, re_bno, re_of, re_sok, re_sex, re_sno, List.map_cons, List.map_nil, List.length_cons, List.length_nil, List.replicate_succ, List.replicate_zero, List.cons_append, List.nil_append, List.getElem?_cons_zero, List.getElem?_cons_succ, List.getElem?_nil, List.set_cons_zero, List.set_cons_succ, List.set_nil, Nat.reduceAdd, Nat.reduceSub, Nat.reduceEqDiff, ↓reduceIte, Bool.not_true, Bool.not_false, Bool.false_eq_true, D.frz, D.frzs, eq_int, ne_int, eq_bl, ne_bl, decide_true, decide_false, Option.bind_some, Option.map_some, wipeE, v_isN, v_notN, non_int, non_str, non_non, true_or, or_true, D.clean, D.cleans, D.ownss, D.owns, Bool.or_false, Bool.false_or, Bool.and_true, Bool.true_and, v_add, v_sub, v_lt, v_le, v_gt, v_ge, v_neg, v_lenL, v_lenT, v_lts, ownL, v_mod hz, v_div hz hz2, hlt]
        · rcases List.mem_append.mp hx with hx | hx
          · exact hd x hx
          · have : x = .int (r % size) := by simpa using hx
            exact ⟨i, by rw [this, hi], hi2⟩) ⟨[], _, _, rfl, by simp [natsD], fun x hx => nomatch hx⟩
    obtain ⟨xs, r, o, rfl, hl, hd⟩ := h2
    rw [h1]
    simp only [ev_fn, ev_start, ev_seq, ev_nil, ev_nx, ev_rt, ev_bk, ev_ct, ev_ex, ev_ono, ev_onx, ev_ort, ev_oex, ev_set, ev_ret, ev_if, ev_expr, ev_raise, ev_c, ev_peek, ev_var, ev_mov, ev_op, ev_ix, ev_un, ev_isi, ev_callB, ev_call, ev_callF, ev_esn, ev_esc, ev_tup, ev_lst, ev_tof, ev_and, ev_or, ev_not, ev_yes, ev_eand, ev_eor, ev_eif, ev_chain, ev_sl, ev_pn, ev_ps, ev_lc, ev_asg, ev_gn, ev_gt, ev_gc, ev_gnil, ev_for, ev_while, ev_range, ev_iof, ev_ienum, ev_append, ev_tidx, ev_isc, ev_try, ev_add, ev_sub, re_bok, re_bex, re_bno, re_of, re_sok, re_sex, re_sno, List.map_cons, List.map_nil, List.length_cons, List.length_nil, List.replicate_succ, List.replicate_zero, List.cons_append, List.nil_append, List.getElem?_cons_zero, List.getElem?_cons_succ, List.getElem?_nil, List.set_cons_zero, List.set_cons_succ, List.set_nil, Nat.reduceAdd, Nat.reduceSub, Nat.reduceEqDiff, ↓reduceIte, Bool.not_true, Bool.not_false, Bool.false_eq_true, D.frz, D.frzs, eq_int, ne_int, eq_bl, ne_bl, decide_true, decide_false, Option.bind_some, Option.map_some, wipeE, v_isN, v_notN, non_int, non_str, non_non, true_or, or_true, D.clean, D.cleans, D.ownss, D.owns, Bool.or_false, Bool.false_or, Bool.and_true, Bool.true_and, v_add, v_sub, v_lt, v_le, v_gt, v_ge, v_neg, v_lenL, v_lenT, v_lts]
    exact ⟨xs, rfl, by simpa using hl, hd⟩
  · simp only [decide_eq_false e, ev_fn, ev_start, ev_seq, ev_nil, ev_nx, ev_rt, ev_bk, ev_ct, ev_ex, ev_ono, ev_onx, ev_ort, ev_oex, ev_set, ev_ret, ev_if, ev_expr, ev_raise, ev_c, ev_peek, ev_var, ev_mov, ev_op, ev_ix, ev_un, ev_isi, ev_callB, ev_call, ev_callF, ev_esn, ev_esc, ev_tup, ev_lst, ev_tof, ev_and, ev_or, ev_not, ev_yes, ev_eand, ev_eor, ev_eif, ev_chain, ev_sl, ev_pn, ev_ps, ev_lc, ev_asg, ev_gn, ev_gt, ev_gc, ev_gnil, ev_for, ev_while, ev_range, ev_iof, ev_ienum, ev_append, ev_tidx, ev_isc, ev_try, ev_add, ev_sub, re_bok, re_bex, re_bno, re_of, re_sok, re_sex, re_sno, List.map_cons, List.map_nil, List.length_cons, List.length_nil, List.replicate_succ, List.replicate_zero, List.cons_append, List.nil_append, List.getElem?_cons_zero, List.getElem?_cons_succ, List.getElem?_nil, List.set_cons_zero, List.set_cons_succ, List.set_nil, Nat.reduceAdd, Nat.reduceSub, Nat.reduceEqDiff, ↓reduceIte, Bool.not_true, Bool.not_false, Bool.false_eq_true, D.frz, D.frzs, eq_int, ne_int, eq_bl, ne_bl, decide_true, decide_false, Option.bind_some, Option.map_some, wipeE, v_isN, v_notN, non_int, non_str, non_non, true_or, or_true, D.clean, D.cleans, D.ownss, D.owns, Bool.or_false, Bool.false_or, Bool.and_true, Bool.true_and, v_add, v_sub, v_lt, v_le, v_gt, v_ge, v_neg, v_lenL, v_lenT, v_lts]
    have key : ∀ i : Nat, i < many → ∃ m : Nat, m < size ∧ ∀ ρ : OL.Env, e_op gMod (e_call (s__law_mix K ca) (es_cons (e_peek 0) (es_cons (e_peek 5) es_nil))) (e_peek 1) [some (.int c), some (.int (size : Nat)), some (.int (many : Nat)), some (.lst true []), none, some (.int (i : Nat))] = .ok (.int (m : Nat)) [some (.int c), some (.int (size : Nat)), some (.int (many : Nat)), some (.lst true []), none, some (.int (i : Nat))] := fun i hi => by
      obtain ⟨m, h1, h2⟩ := p_mix (K := K) (ca := ca) c i (by omega) (by omega)
      obtain ⟨j, hj, hj2⟩ := mod_dig m hs
      refine ⟨j, hj2, fun _ => ?_⟩
      simp only [ev_fn, ev_start, ev_seq, ev_nil, ev_nx, ev_rt, ev_bk, ev_ct, ev_ex, ev_ono, ev_onx, ev_ort, ev_oex, ev_set, ev_ret, ev_if, ev_expr, ev_raise, ev_c, ev_peek, ev_var, ev_mov, ev_op, ev_ix, ev_un, ev_isi, ev_callB, ev_call, ev_callF, ev_esn, ev_esc, ev_tup, ev_lst, ev_tof, ev_and, ev_or, ev_not, ev_yes, ev_eand, ev_eor, ev_eif, ev_chain, ev_sl, ev_pn, ev_ps, ev_lc, ev_asg, ev_gn, ev_gt, ev_gc, ev_gnil, ev_for, ev_while, ev_range, ev_iof, ev_ienum, ev_append, ev_tidx, ev_isc, ev_try, ev_add, ev_sub, re_bok, re_bex, re_bno, re_of, re_sok, re_sex, re_sno, List.map_cons, List.map_nil, List.length_cons, List.length_nil, List.replicate_succ, List.replicate_zero, List.cons_append, List.nil_append, List.getElem?_cons_zero, List.getElem?_cons_succ, List.getElem?_nil, List.set_cons_zero, List.set_cons_succ, List.set_nil, Nat.reduceAdd, Nat.reduceSub, Nat.reduceEqDiff, ↓reduceIte, Bool.not_true, Bool.not_false, Bool.false_eq_true, D.frz, D.frzs, eq_int, ne_int, eq_bl, ne_bl, decide_true, decide_false, Option.bind_some, Option.map_some, wipeE, v_isN, v_notN, non_int, non_str, non_non, true_or, or_true, D.clean, D.cleans, D.ownss, D.owns, Bool.or_false, Bool.false_or, Bool.and_true, Bool.true_and, v_add, v_sub, v_lt, v_le, v_gt, v_ge, v_neg, v_lenL, v_lenT, v_lts, h1, v_mod hz, hj]
    let y : D → D := fun d => match d with
      | .int (.ofNat i) => if h : i < many then .int ((key i h).choose : Nat) else .non
      | _ => .non
    rw [lcL_map (y := y) (fun d hd => by
      obtain ⟨i, hi, rfl⟩ := List.mem_map.mp hd
      have hi' : i < many := List.mem_range.mp hi
      have z := (key i hi').choose_spec.2 []
      have : y (.int (i : Nat)) = .int ((key i hi').choose : Nat) := dif_pos hi'
      exact ⟨_, _, rfl, z.trans (by rw [this]), rfl⟩) (by simp only [natsD, List.length_map, List.length_range, List.length_nil, Nat.zero_add]; exact sz_le (by omega))]
    simp only [ev_fn, ev_start, ev_seq, ev_nil, ev_nx, ev_rt, ev_bk, ev_ct, ev_ex, ev_ono, ev_onx, ev_ort, ev_oex, ev_set, ev_ret, ev_if, ev_expr, ev_raise, ev_c, ev_peek, ev_var, ev_mov, ev_op, ev_ix, ev_un, ev_isi, ev_callB, ev_call, ev_callF, ev_esn, ev_esc, ev_tup, ev_lst, ev_tof, ev_and, ev_or, ev_not, ev_yes, ev_eand, ev_eor, ev_eif, ev_chain, ev_sl, ev_pn, ev_ps, ev_lc, ev_asg, ev_gn, ev_gt, ev_gc, ev_gnil, ev_for, ev_while, ev_range, ev_iof, ev_ienum, ev_append, ev_tidx, ev_isc, ev_try, ev_add, ev_sub, re_bok, re_bex, re_bno, re_of, re_sok, re_sex, re_sno, List.map_cons, List.map_nil, List.length_cons, List.length_nil, List.replicate_succ, List.replicate_zero, List.cons_append, List.nil_append, List.getElem?_cons_zero, List.getElem?_cons_succ, List.getElem?_nil, List.set_cons_zero, List.set_cons_succ, List.set_nil, Nat.reduceAdd, Nat.reduceSub, Nat.reduceEqDiff, ↓reduceIte, Bool.not_true, Bool.not_false, Bool.false_eq_true, D.frz, D.frzs, eq_int, ne_int, eq_bl, ne_bl, decide_true, decide_false, Option.bind_some, Option.map_some, wipeE, v_isN, v_notN, non_int, non_str, non_non, true_or, or_true, D.clean, D.cleans, D.ownss, D.owns, Bool.or_false, Bool.false_or, Bool.and_true, Bool.true_and, v_add, v_sub, v_lt, v_le, v_gt, v_ge, v_neg, v_lenL, v_lenT, v_lts]
    refine ⟨_, rfl, by simp [natsD], fun d hd => ?_⟩
    obtain ⟨x, hx, rfl⟩ := List.mem_map.mp hd
    obtain ⟨i, hi, rfl⟩ := List.mem_map.mp hx
    have hi' : i < many := List.mem_range.mp hi
    exact ⟨(key i hi').choose, dif_pos hi', (key i hi').choose_spec.1⟩
theorem p_worths (c : Int) (many : Nat) (hm : many < 1000) : ∃ ws, s__law_worths K ca [.int c, .int (many : Nat)] = .ok (.lst true ws) ∧ ws.length = many ∧ ∀ d ∈ ws, isW d := by
  obtain ⟨ds, h1, h2, h3⟩ := p_digits (K := K) (ca := ca) c 13 many (by decide) (by decide) hm
  have h1' : s__law_digits K ca [.int c, .int 13, .int (many : Nat)] = .ok (.lst true ds) := h1
  have os := owns_ws someW_w
  unfold s__law_worths r__law_worths
  simp (disch := first | decide | omega | assumption) only [sz_le, sz_lt, v_mod, v_div, v_range, v_mul, ev_fn, ev_start, ev_seq, ev_nil, ev_nx, ev_rt, ev_bk, ev_ct, ev_ex, ev_ono, ev_onx, ev_ort, ev_oex, ev_set, ev_ret, ev_if, ev_expr, ev_raise, ev_c, ev_peek, ev_var, ev_mov, ev_op, ev_ix, ev_un, ev_isi, ev_callB, ev_call, ev_callF, ev_esn, ev_esc, ev_tup, ev_lst, ev_tof, ev_and, ev_or, ev_not, ev_yes, ev_eand, ev_eor, ev_eif, ev_chain, ev_sl, ev_pn, ev_ps, ev_lc, ev_asg, ev_gn, ev_gt, ev_gc, ev_gnil, ev_for, ev_while, ev_range, ev_iof, ev_ienum, ev_append, ev_tidx, ev_isc, ev_try, ev_add, ev_sub, re_bok, re_bex, re_bno, re_of, re_sok, re_sex, re_sno, List.map_cons, List.map_nil, List.length_cons, List.length_nil, List.replicate_succ, List.replicate_zero, List.cons_append, List.nil_append, List.getElem?_cons_zero, List.getElem?_cons_succ, List.getElem?_nil, List.set_cons_zero, List.set_cons_succ, List.set_nil, Nat.reduceAdd, Nat.reduceSub, Nat.reduceEqDiff, ↓reduceIte, Bool.not_true, Bool.not_false, Bool.false_eq_true, D.frz, D.frzs, eq_int, ne_int, eq_bl, ne_bl, decide_true, decide_false, Option.bind_some, Option.map_some, wipeE, v_isN, v_notN, non_int, non_str, non_non, true_or, or_true, D.clean, D.cleans, D.ownss, D.owns, Bool.or_false, Bool.false_or, Bool.and_true, Bool.true_and, v_add, v_sub, v_lt, v_le, v_gt, v_ge, v_neg, v_lenL, v_lenT, v_lts, v_pow60, v_x200]
  generalize hS : ([.non, .int 0, .int 1, .int 2, .int (-1), .str (Str.ofString "a"), .str (Str.ofString "b"), .str (Str.ofString "ab"), .str (Str.ofString ""), .int 1000000000000000000000000000000000000000000000000000000000000, .int (-1000000000000000000000000000000000000000000000000000000000000), .str (Str.ofString "1"), .str x200] : List D) = sw
  have hS' : sw = someW := hS.symm
  have hl : sw.length = 13 := by rw [hS']; rfl
  simp (disch := first | decide | omega | assumption) only [sz_le, sz_lt, v_mod, v_div, v_range, v_mul, ev_fn, ev_start, ev_seq, ev_nil, ev_nx, ev_rt, ev_bk, ev_ct, ev_ex, ev_ono, ev_onx, ev_ort, ev_oex, ev_set, ev_ret, ev_if, ev_expr, ev_raise, ev_c, ev_peek, ev_var, ev_mov, ev_op, ev_ix, ev_un, ev_isi, ev_callB, ev_call, ev_callF, ev_esn, ev_esc, ev_tup, ev_lst, ev_tof, ev_and, ev_or, ev_not, ev_yes, ev_eand, ev_eor, ev_eif, ev_chain, ev_sl, ev_pn, ev_ps, ev_lc, ev_asg, ev_gn, ev_gt, ev_gc, ev_gnil, ev_for, ev_while, ev_range, ev_iof, ev_ienum, ev_append, ev_tidx, ev_isc, ev_try, ev_add, ev_sub, re_bok, re_bex, re_bno, re_of, re_sok, re_sex, re_sno, List.map_cons, List.map_nil, List.length_cons, List.length_nil, List.replicate_succ, List.replicate_zero, List.cons_append, List.nil_append, List.getElem?_cons_zero, List.getElem?_cons_succ, List.getElem?_nil, List.set_cons_zero, List.set_cons_succ, List.set_nil, Nat.reduceAdd, Nat.reduceSub, Nat.reduceEqDiff, ↓reduceIte, Bool.not_true, Bool.not_false, Bool.false_eq_true, D.frz, D.frzs, eq_int, ne_int, eq_bl, ne_bl, decide_true, decide_false, Option.bind_some, Option.map_some, wipeE, v_isN, v_notN, non_int, non_str, non_non, true_or, or_true, D.clean, D.cleans, D.ownss, D.owns, Bool.or_false, Bool.false_or, Bool.and_true, Bool.true_and, v_add, v_sub, v_lt, v_le, v_gt, v_ge, v_neg, v_lenL, v_lenT, v_lts, hl, Int.cast_ofNat_Int, h1', owns_ws (dig_w h3), frzs_ws (dig_w h3)]
  rw [lcL_map (y := fun d => match d with | .int (.ofNat i) => someW.getD i .non | _ => .non) (fun d hd => by
    obtain ⟨i, rfl, hi⟩ := h3 d hd
    obtain ⟨w, w1, w2⟩ := someW_at hi
    refine ⟨_, [some (.int c), some (.int (many : Nat)), some (.lst true sw), some (.int (i : Nat))], rfl, ?_, rfl⟩
    simp (disch := first | decide | omega | assumption) only [sz_le, sz_lt, v_mod, v_div, v_range, v_mul, ev_fn, ev_start, ev_seq, ev_nil, ev_nx, ev_rt, ev_bk, ev_ct, ev_ex, ev_ono, ev_onx, ev_ort, ev_oex, ev_set, ev_ret, ev_if, ev_expr, ev_raise, ev_c, ev_peek, ev_var, ev_mov, ev_op, ev_ix, ev_un, ev_isi, ev_callB, ev_call, ev_callF, ev_esn, ev_esc, ev_tup, ev_lst, ev_tof, ev_and, ev_or, ev_not, ev_yes, ev_eand, ev_eor, ev_eif, ev_chain, ev_sl, ev_pn, ev_ps, ev_lc, ev_asg, ev_gn, ev_gt, ev_gc, ev_gnil, ev_for, ev_while, ev_range, ev_iof, ev_ienum, ev_append, ev_tidx, ev_isc, ev_try, ev_add, ev_sub, re_bok, re_bex, re_bno, re_of, re_sok, re_sex, re_sno, List.map_cons, List.map_nil, List.length_cons, List.length_nil, List.replicate_succ, List.replicate_zero, List.cons_append, List.nil_append, List.getElem?_cons_zero, List.getElem?_cons_succ, List.getElem?_nil, List.set_cons_zero, List.set_cons_succ, List.set_nil, Nat.reduceAdd, Nat.reduceSub, Nat.reduceEqDiff, ↓reduceIte, Bool.not_true, Bool.not_false, Bool.false_eq_true, D.frz, D.frzs, eq_int, ne_int, eq_bl, ne_bl, decide_true, decide_false, Option.bind_some, Option.map_some, wipeE, v_isN, v_notN, non_int, non_str, non_non, true_or, or_true, D.clean, D.cleans, D.ownss, D.owns, Bool.or_false, Bool.false_or, Bool.and_true, Bool.true_and, v_add, v_sub, v_lt, v_le, v_gt, v_ge, v_neg, v_lenL, v_lenT, v_lts, hS', v_ixL w1 (own_w w2)]
    show _ = RE.ok (someW.getD i .non) _
    rw [List.getD_eq_getElem?_getD, w1]
    rfl) (by rw [h2]; exact sz_le (by simp; omega))]
  simp (disch := first | decide | omega | assumption) only [sz_le, sz_lt, v_mod, v_div, v_range, v_mul, ev_fn, ev_start, ev_seq, ev_nil, ev_nx, ev_rt, ev_bk, ev_ct, ev_ex, ev_ono, ev_onx, ev_ort, ev_oex, ev_set, ev_ret, ev_if, ev_expr, ev_raise, ev_c, ev_peek, ev_var, ev_mov, ev_op, ev_ix, ev_un, ev_isi, ev_callB, ev_call, ev_callF, ev_esn, ev_esc, ev_tup, ev_lst, ev_tof, ev_and, ev_or, ev_not, ev_yes, ev_eand, ev_eor, ev_eif, ev_chain, ev_sl, ev_pn, ev_ps, ev_lc, ev_asg, ev_gn, ev_gt, ev_gc, ev_gnil, ev_for, ev_while, ev_range, ev_iof, ev_ienum, ev_append, ev_tidx, ev_isc, ev_try, ev_add, ev_sub, re_bok, re_bex, re_bno, re_of, re_sok, re_sex, re_sno, List.map_cons, List.map_nil, List.length_cons, List.length_nil, List.replicate_succ, List.replicate_zero, List.cons_append, List.nil_append, List.getElem?_cons_zero, List.getElem?_cons_succ, List.getElem?_nil, List.set_cons_zero, List.set_cons_succ, List.set_nil, Nat.reduceAdd, Nat.reduceSub, Nat.reduceEqDiff, ↓reduceIte, Bool.not_true, Bool.not_false, Bool.false_eq_true, D.frz, D.frzs, eq_int, ne_int, eq_bl, ne_bl, decide_true, decide_false, Option.bind_some, Option.map_some, wipeE, v_isN, v_notN, non_int, non_str, non_non, true_or, or_true, D.clean, D.cleans, D.ownss, D.owns, Bool.or_false, Bool.false_or, Bool.and_true, Bool.true_and, v_add, v_sub, v_lt, v_le, v_gt, v_ge, v_neg, v_lenL, v_lenT, v_lts, ]
  refine ⟨_, rfl, by rw [List.length_map, h2], fun d hd => ?_⟩
  obtain ⟨x, hx, rfl⟩ := List.mem_map.mp hd
  obtain ⟨i, rfl, hi⟩ := h3 x hx
  obtain ⟨w, w1, w2⟩ := someW_at hi
  show isW (someW.getD i .non)
  rw [List.getD_eq_getElem?_getD, w1]
  exact w2
theorem p_table (ns : List Int) (at' most : Nat) (hn : ns.length ≤ 63) (ha : at' < 3) (hm : most ≤ 20) : ∃ hs rs, s__law_table K ca [.lst false (ns.map .int), .int (at' : Nat), .int (most : Nat)] = .ok (tabD hs rs) ∧ Tab most hs rs := by
  have n1 : ((ns.map D.int).length) = ns.length := List.length_map ..
  have cat : OL.gAdd (.lst false (ns.map .int)) (.lst true [.int 0, .int 0, .int 0, .int 0]) = some (.lst true ((ns ++ [0, 0, 0, 0]).map .int)) := by
    rw [v_catL (own_ints ns) rfl (sz_le (by rw [n1]; show ns.length + 4 ≤ _; omega)), List.map_append]
    rfl
  have hlen : at' < (ns ++ [0, 0, 0, 0]).length := by rw [List.length_append]; show at' < ns.length + 4; omega
  generalize hc : (ns ++ [0, 0, 0, 0])[at'] = c
  have hget : ((ns ++ [0, 0, 0, 0]).map D.int)[at']? = some (.int c) := by rw [List.getElem?_map, List.getElem?_eq_getElem hlen, hc]; rfl
  have rep : OL.gMul (.lst true [.int 0]) (.int 4) = some (.lst true [.int 0, .int 0, .int 0, .int 0]) := v_repL ⟨rfl, by decide, by decide, by decide⟩
  have w1 := Int.emod_nonneg c (show (4 : Int) ≠ 0 by decide)
  have w2 := Int.emod_lt_of_pos c (show (0 : Int) < 4 by decide)
  have h1 := Int.emod_nonneg (c / 4) (show ((most : Int) + 1) ≠ 0 by omega)
  have h2 := Int.emod_lt_of_pos (c / 4) (show (0 : Int) < (most : Int) + 1 by omega)
  have k1 := Int.emod_nonneg (c / 64) (show (4 : Int) ≠ 0 by decide)
  have k2 := Int.emod_lt_of_pos (c / 64) (show (0 : Int) < 4 by decide)
  obtain ⟨wide, hw⟩ : ∃ wide : Nat, 1 + c % 4 = (wide : Int) := ⟨(1 + c % 4).toNat, by omega⟩
  obtain ⟨high, hh⟩ : ∃ high : Nat, c / 4 % ((most : Int) + 1) = (high : Int) := ⟨(c / 4 % ((most : Int) + 1)).toNat, by omega⟩
  obtain ⟨k, hk⟩ : ∃ k : Nat, c / 64 % 4 = (k : Int) := ⟨(c / 64 % 4).toNat, by omega⟩
  have wide1 : 1 ≤ wide := by omega
  have wide4 : wide ≤ 4 := by omega
  have high1 : high ≤ most := by omega
  have k4 : k < 4 := by omega
  have whl : wide * high ≤ 4 * 20 := Nat.mul_le_mul wide4 (Nat.le_trans high1 hm)
  have whe : ((wide : Int) * (high : Int)) = ((wide * high : Nat) : Int) := by rw [Int.natCast_mul]
  obtain ⟨ws, q1, q2, q3⟩ := p_worths (K := K) (ca := ca) (cutL ns (some ((at' : Int) + 1)) none).sum (wide * high) (by omega)
  obtain ⟨r1, r2, r3⟩ := rotH_ok k4 wide1 wide4
  have hd : ∀ l : List Str, D.ownss (l.map .str) = false := own_strs
  have four : ([D.str (Str.ofString "b"), D.str (Str.ofString "a"), D.str (Str.ofString "ab"), D.str (Str.ofString "c")] : List D) = [Str.ofString "b", Str.ofString "a", Str.ofString "ab", Str.ofString "c"].map .str := rfl
  have heads : OL.gSl (.lst true [D.str (Str.ofString "b"), D.str (Str.ofString "a"), D.str (Str.ofString "ab"), D.str (Str.ofString "c")]) (some (k : Int)) none = some (.lst true (([Str.ofString "b", Str.ofString "a", Str.ofString "ab", Str.ofString "c"].drop k).map .str)) := by
    rw [four, v_slL (hd _), cutL_map]
    rcases (show k = 0 ∨ k = 1 ∨ k = 2 ∨ k = 3 by omega) with rfl | rfl | rfl | rfl <;> rfl
  have heads2 : OL.gSl (.lst true [D.str (Str.ofString "b"), D.str (Str.ofString "a"), D.str (Str.ofString "ab"), D.str (Str.ofString "c")]) none (some (k : Int)) = some (.lst true (([Str.ofString "b", Str.ofString "a", Str.ofString "ab", Str.ofString "c"].take k).map .str)) := by
    rw [four, v_slL (hd _), cutL_map]
    rcases (show k = 0 ∨ k = 1 ∨ k = 2 ∨ k = 3 by omega) with rfl | rfl | rfl | rfl <;> rfl
  have heads3 : OL.gAdd (.lst true (([Str.ofString "b", Str.ofString "a", Str.ofString "ab", Str.ofString "c"].drop k).map .str)) (.lst true (([Str.ofString "b", Str.ofString "a", Str.ofString "ab", Str.ofString "c"].take k).map .str)) = some (.lst true ((rotH k).map .str)) := by
    rw [v_catL (hd _) (hd _) (sz_le (by rw [List.length_map, List.length_map, List.length_drop, List.length_take]; simp only [List.length_cons, List.length_nil]; omega)), ← List.map_append]
    rfl
  have heads4 : OL.gSl (.tup ((rotH k).map .str)) none (some (wide : Int)) = some (.tup (((rotH k).take wide).map .str)) := by
    rw [v_slT (hd _), cutL_map]
    rcases (show k = 0 ∨ k = 1 ∨ k = 2 ∨ k = 3 by omega) with rfl | rfl | rfl | rfl <;> rcases (show wide = 1 ∨ wide = 2 ∨ wide = 3 ∨ wide = 4 by omega) with rfl | rfl | rfl | rfl <;> rfl
  have sumE : OL.gSum [.lst true (cutL (ns.map D.int) (some ((at' : Int) + 1)) none)] = some (.int (cutL ns (some ((at' : Int) + 1)) none).sum) := by rw [cutL_map]; exact v_sumI
  unfold s__law_table r__law_table
  simp (disch := first | decide | omega | assumption) only [sz_le, sz_lt, v_mod, v_div, v_range, v_mul, ev_fn, ev_start, ev_seq, ev_nil, ev_nx, ev_rt, ev_bk, ev_ct, ev_ex, ev_ono, ev_onx, ev_ort, ev_oex, ev_set, ev_ret, ev_if, ev_expr, ev_raise, ev_c, ev_peek, ev_var, ev_mov, ev_op, ev_ix, ev_un, ev_isi, ev_callB, ev_call, ev_callF, ev_esn, ev_esc, ev_tup, ev_lst, ev_tof, ev_and, ev_or, ev_not, ev_yes, ev_eand, ev_eor, ev_eif, ev_chain, ev_sl, ev_pn, ev_ps, ev_lc, ev_asg, ev_gn, ev_gt, ev_gc, ev_gnil, ev_for, ev_while, ev_range, ev_iof, ev_ienum, ev_append, ev_tidx, ev_isc, ev_try, ev_add, ev_sub, re_bok, re_bex, re_bno, re_of, re_sok, re_sex, re_sno, List.map_cons, List.map_nil, List.length_cons, List.length_nil, List.replicate_succ, List.replicate_zero, List.cons_append, List.nil_append, List.getElem?_cons_zero, List.getElem?_cons_succ, List.getElem?_nil, List.set_cons_zero, List.set_cons_succ, List.set_nil, Nat.reduceAdd, Nat.reduceSub, Nat.reduceEqDiff, ↓reduceIte, Bool.not_true, Bool.not_false, Bool.false_eq_true, D.frz, D.frzs, eq_int, ne_int, eq_bl, ne_bl, decide_true, decide_false, Option.bind_some, Option.map_some, wipeE, v_isN, v_notN, non_int, non_str, non_non, true_or, or_true, D.clean, D.cleans, D.ownss, D.owns, Bool.or_false, Bool.false_or, Bool.and_true, Bool.true_and, v_add, v_sub, v_lt, v_le, v_gt, v_ge, v_neg, v_lenL, v_lenT, v_lts, rep, cat, v_ixL hget rfl, v_slL (own_ints ns), hw, hh, hk, heads, heads2, heads3, heads4, ev_ps, v_tupL (hd _), v_slL (hd _), sumE, whe, q1, owns_ws q3, rangeD_nats]
  have rowI : ∀ i : Nat, i < high → i * wide + wide ≤ ws.length := fun i hi => by
    rw [q2]
    have : (i + 1) * wide ≤ high * wide := Nat.mul_le_mul_right _ hi
    rw [Nat.add_mul, Nat.one_mul] at this
    rw [Nat.mul_comm wide high]
    exact this
  rw [lcL_map (y := fun d => match d with | .int (.ofNat i) => .tup ((ws.drop (i * wide)).take wide) | _ => .non) (fun d hd' => by
    obtain ⟨i, hi, rfl⟩ := List.mem_map.mp hd'
    have hi' : i < high := List.mem_range.mp hi
    have e1 : ((i : Nat) : Int) * (wide : Int) = ((i * wide : Nat) : Int) := by rw [Int.natCast_mul]
    have e2 : ((i * wide : Nat) : Int) + (wide : Int) = ((i * wide + wide : Nat) : Int) := by omega
    have e3 : cutL ws (some ((i * wide : Nat) : Int)) (some ((i * wide + wide : Nat) : Int)) = (ws.drop (i * wide)).take wide := by
      rw [cutL_nat ws _ _ (Nat.le_add_right _ _) (rowI i hi'), Nat.add_sub_cancel_left]
    have e4 : D.ownss ((ws.drop (i * wide)).take wide) = false := owns_ws fun d m => q3 d (List.mem_of_mem_drop (List.mem_of_mem_take m))
    refine ⟨_, [some (.lst false (ns.map .int)), some (.int (at' : Nat)), some (.int (most : Nat)), some (.int c), some (.int (wide : Nat)), some (.int (high : Nat)), some (.tup (((rotH k).take wide).map .str)), some (.lst true ws), none, some (.int (i : Nat))], rfl, ?_, rfl⟩
    simp (disch := first | decide | omega | assumption) only [sz_le, sz_lt, v_mod, v_div, v_range, v_mul, ev_fn, ev_start, ev_seq, ev_nil, ev_nx, ev_rt, ev_bk, ev_ct, ev_ex, ev_ono, ev_onx, ev_ort, ev_oex, ev_set, ev_ret, ev_if, ev_expr, ev_raise, ev_c, ev_peek, ev_var, ev_mov, ev_op, ev_ix, ev_un, ev_isi, ev_callB, ev_call, ev_callF, ev_esn, ev_esc, ev_tup, ev_lst, ev_tof, ev_and, ev_or, ev_not, ev_yes, ev_eand, ev_eor, ev_eif, ev_chain, ev_sl, ev_pn, ev_ps, ev_lc, ev_asg, ev_gn, ev_gt, ev_gc, ev_gnil, ev_for, ev_while, ev_range, ev_iof, ev_ienum, ev_append, ev_tidx, ev_isc, ev_try, ev_add, ev_sub, re_bok, re_bex, re_bno, re_of, re_sok, re_sex, re_sno, List.map_cons, List.map_nil, List.length_cons, List.length_nil, List.replicate_succ, List.replicate_zero, List.cons_append, List.nil_append, List.getElem?_cons_zero, List.getElem?_cons_succ, List.getElem?_nil, List.set_cons_zero, List.set_cons_succ, List.set_nil, Nat.reduceAdd, Nat.reduceSub, Nat.reduceEqDiff, ↓reduceIte, Bool.not_true, Bool.not_false, Bool.false_eq_true, D.frz, D.frzs, eq_int, ne_int, eq_bl, ne_bl, decide_true, decide_false, Option.bind_some, Option.map_some, wipeE, v_isN, v_notN, non_int, non_str, non_non, true_or, or_true, D.clean, D.cleans, D.ownss, D.owns, Bool.or_false, Bool.false_or, Bool.and_true, Bool.true_and, v_add, v_sub, v_lt, v_le, v_gt, v_ge, v_neg, v_lenL, v_lenT, v_lts, ev_ps, e1, e2, v_slL (owns_ws q3), e3, v_tupL e4]) (by simp only [natsD, List.length_map, List.length_range, List.length_nil, Nat.zero_add]; exact sz_le (by omega))]
  have rows : (natsD high).map (fun d => match d with | .int (.ofNat i) => D.tup ((ws.drop (i * wide)).take wide) | _ => .non) = ((List.range high).map fun i => (ws.drop (i * wide)).take wide).map D.tup := by
    unfold natsD
    rw [List.map_map, List.map_map]
    rfl
  have rw' : ∀ r ∈ (List.range high).map (fun i => (ws.drop (i * wide)).take wide), (r.length = wide) ∧ ∀ d ∈ r, isW d := fun r hr => by
    obtain ⟨i, hi, rfl⟩ := List.mem_map.mp hr
    have := rowI i (List.mem_range.mp hi)
    exact ⟨by rw [List.length_take, List.length_drop]; omega, fun d m => q3 d (List.mem_of_mem_drop (List.mem_of_mem_take m))⟩
  have T : Tab most ((rotH k).take wide) ((List.range high).map fun i => (ws.drop (i * wide)).take wide) :=
    ⟨by rw [r1]; exact wide1, by rw [r1]; exact wide4, r2, r3, fun r hr => by rw [r1]; exact (rw' r hr).1, fun r hr => (rw' r hr).2, by rw [List.length_map, List.length_range]; exact high1⟩
  rw [rows]
  simp (disch := first | decide | omega | assumption) only [sz_le, sz_lt, v_mod, v_div, v_range, v_mul, ev_fn, ev_start, ev_seq, ev_nil, ev_nx, ev_rt, ev_bk, ev_ct, ev_ex, ev_ono, ev_onx, ev_ort, ev_oex, ev_set, ev_ret, ev_if, ev_expr, ev_raise, ev_c, ev_peek, ev_var, ev_mov, ev_op, ev_ix, ev_un, ev_isi, ev_callB, ev_call, ev_callF, ev_esn, ev_esc, ev_tup, ev_lst, ev_tof, ev_and, ev_or, ev_not, ev_yes, ev_eand, ev_eor, ev_eif, ev_chain, ev_sl, ev_pn, ev_ps, ev_lc, ev_asg, ev_gn, ev_gt, ev_gc, ev_gnil, ev_for, ev_while, ev_range, ev_iof, ev_ienum, ev_append, ev_tidx, ev_isc, ev_try, ev_add, ev_sub, re_bok, re_bex, re_bno, re_of, re_sok, re_sex, re_sno, List.map_cons, List.map_nil, List.length_cons, List.length_nil, List.replicate_succ, List.replicate_zero, List.cons_append, List.nil_append, List.getElem?_cons_zero, List.getElem?_cons_succ, List.getElem?_nil, List.set_cons_zero, List.set_cons_succ, List.set_nil, Nat.reduceAdd, Nat.reduceSub, Nat.reduceEqDiff, ↓reduceIte, Bool.not_true, Bool.not_false, Bool.false_eq_true, D.frz, D.frzs, eq_int, ne_int, eq_bl, ne_bl, decide_true, decide_false, Option.bind_some, Option.map_some, wipeE, v_isN, v_notN, non_int, non_str, non_non, true_or, or_true, D.clean, D.cleans, D.ownss, D.owns, Bool.or_false, Bool.false_or, Bool.and_true, Bool.true_and, v_add, v_sub, v_lt, v_le, v_gt, v_ge, v_neg, v_lenL, v_lenT, v_lts, v_tupL (own_rows T)]
  exact ⟨_, _, rfl, T⟩
end
end Gk72

namespace Gk72
open PySem PySem.Spec OL
section
variable {K : PySem.W.Frag} {ca : Nat → Addr}
theorem p_column_at {most : Nat} {hs : List Str} {rs : List (List D)} (t : Tab most hs rs) (h : Str) (hk : PyData.strOk h = true) :
    s_column_at K ca [tabD hs rs, .str h] = match idxS hs h with | some j => .ok (.int (j : Nat)) | none => .ex 1 := by
  have o1 := own_strs hs
  have o2 := own_rows t
  have st : isST (.tup (hs.map .str)) = true := by
    cases hs with
    | nil => exact absurd t.ne (Nat.lt_irrefl 0)
    | cons x xs => rfl
  have ni : gNotInD (.str h) (.tup (hs.map .str)) = some (.bl (decide (idxS hs h = none))) := notin_strs (fun x hx => ok_head (t.hin x hx)) hk
  unfold s_column_at r_column_at tabD
  simp (disch := first | decide | omega | assumption) only [sz_le, sz_lt, v_mod, v_div, v_range, v_mul, ev_fn, ev_start, ev_seq, ev_nil, ev_nx, ev_rt, ev_bk, ev_ct, ev_ex, ev_ono, ev_onx, ev_ort, ev_oex, ev_set, ev_ret, ev_if, ev_expr, ev_raise, ev_c, ev_peek, ev_var, ev_mov, ev_op, ev_ix, ev_un, ev_isi, ev_callB, ev_call, ev_callF, ev_esn, ev_esc, ev_tup, ev_lst, ev_tof, ev_and, ev_or, ev_not, ev_yes, ev_eand, ev_eor, ev_eif, ev_chain, ev_sl, ev_pn, ev_ps, ev_lc, ev_asg, ev_gn, ev_gt, ev_gc, ev_gnil, ev_for, ev_while, ev_range, ev_iof, ev_ienum, ev_append, ev_tidx, ev_isc, ev_try, ev_add, ev_sub, re_bok, re_bex, re_bno, re_of, re_sok, re_sex, re_sno, List.map_cons, List.map_nil, List.length_cons, List.length_nil, List.replicate_succ, List.replicate_zero, List.cons_append, List.nil_append, List.getElem?_cons_zero, List.getElem?_cons_succ, List.getElem?_nil, List.set_cons_zero, List.set_cons_succ, List.set_nil, Nat.reduceAdd, Nat.reduceSub, Nat.reduceEqDiff, ↓reduceIte, Bool.not_true, Bool.not_false, Bool.false_eq_true, D.frz, D.frzs, eq_int, ne_int, eq_bl, ne_bl, decide_true, decide_false, Option.bind_some, Option.map_some, wipeE, v_isN, v_notN, non_int, non_str, non_non, true_or, or_true, D.clean, D.cleans, D.ownss, D.owns, Bool.or_false, Bool.false_or, Bool.and_true, Bool.true_and, v_add, v_sub, v_lt, v_le, v_gt, v_ge, v_neg, v_lenL, v_lenT, v_lts, v_ix0 (show (D.tup (hs.map .str)).owns = false from o1), ni]
  cases q : idxS hs h with
  | none => simp (disch := first | decide | omega | assumption) only [sz_le, sz_lt, v_mod, v_div, v_range, v_mul, ev_fn, ev_start, ev_seq, ev_nil, ev_nx, ev_rt, ev_bk, ev_ct, ev_ex, ev_ono, ev_onx, ev_ort, ev_oex, ev_set, ev_ret, ev_if, ev_expr, ev_raise, ev_c, ev_peek, ev_var, ev_mov, ev_op, ev_ix, ev_un, ev_isi, ev_callB, ev_call, ev_callF, ev_esn, ev_esc, ev_tup, ev_lst, ev_tof, ev_and, ev_or, ev_not, ev_yes, ev_eand, ev_eor, ev_eif, ev_chain, ev_sl, ev_pn, ev_ps, ev_lc, ev_asg, ev_gn, ev_gt, ev_gc, ev_gnil, ev_for, ev_while, ev_range, ev_iof, ev_ienum, ev_append, ev_tidx, ev_isc, ev_try, ev_add, ev_sub, re_bok, re_bex, re_bno, re_of, re_sok, re_sex, re_sno, List.map_cons, List.map_nil, List.length_cons, List.length_nil, List.replicate_succ, List.replicate_zero, List.cons_append, List.nil_append, List.getElem?_cons_zero, List.getElem?_cons_succ, List.getElem?_nil, List.set_cons_zero, List.set_cons_succ, List.set_nil, Nat.reduceAdd, Nat.reduceSub, Nat.reduceEqDiff, ↓reduceIte, Bool.not_true, Bool.not_false, Bool.false_eq_true, D.frz, D.frzs, eq_int, ne_int, eq_bl, ne_bl, decide_true, decide_false, Option.bind_some, Option.map_some, wipeE, v_isN, v_notN, non_int, non_str, non_non, true_or, or_true, D.clean, D.cleans, D.ownss, D.owns, Bool.or_false, Bool.false_or, Bool.and_true, Bool.true_and, v_add, v_sub, v_lt, v_le, v_gt, v_ge, v_neg, v_lenL, v_lenT, v_lts, ]
  | some j =>
    have g : gTidx (.tup (hs.map .str)) (.str h) = some (.int (j : Nat)) := by
      unfold gTidx
      simp only [strs_map, q, Option.map_some]
    simp (disch := first | decide | omega | assumption) only [sz_le, sz_lt, v_mod, v_div, v_range, v_mul, ev_fn, ev_start, ev_seq, ev_nil, ev_nx, ev_rt, ev_bk, ev_ct, ev_ex, ev_ono, ev_onx, ev_ort, ev_oex, ev_set, ev_ret, ev_if, ev_expr, ev_raise, ev_c, ev_peek, ev_var, ev_mov, ev_op, ev_ix, ev_un, ev_isi, ev_callB, ev_call, ev_callF, ev_esn, ev_esc, ev_tup, ev_lst, ev_tof, ev_and, ev_or, ev_not, ev_yes, ev_eand, ev_eor, ev_eif, ev_chain, ev_sl, ev_pn, ev_ps, ev_lc, ev_asg, ev_gn, ev_gt, ev_gc, ev_gnil, ev_for, ev_while, ev_range, ev_iof, ev_ienum, ev_append, ev_tidx, ev_isc, ev_try, ev_add, ev_sub, re_bok, re_bex, re_bno, re_of, re_sok, re_sex, re_sno, List.map_cons, List.map_nil, List.length_cons, List.length_nil, List.replicate_succ, List.replicate_zero, List.cons_append, List.nil_append, List.getElem?_cons_zero, List.getElem?_cons_succ, List.getElem?_nil, List.set_cons_zero, List.set_cons_succ, List.set_nil, Nat.reduceAdd, Nat.reduceSub, Nat.reduceEqDiff, ↓reduceIte, Bool.not_true, Bool.not_false, Bool.false_eq_true, D.frz, D.frzs, eq_int, ne_int, eq_bl, ne_bl, decide_true, decide_false, Option.bind_some, Option.map_some, wipeE, v_isN, v_notN, non_int, non_str, non_non, true_or, or_true, D.clean, D.cleans, D.ownss, D.owns, Bool.or_false, Bool.false_or, Bool.and_true, Bool.true_and, v_add, v_sub, v_lt, v_le, v_gt, v_ge, v_neg, v_lenL, v_lenT, v_lts, st, g, v_ix0 (show (D.tup (hs.map .str)).owns = false from o1), reduceCtorEq]
theorem p_column_of {most : Nat} {hs : List Str} {rs : List (List D)} (t : Tab most hs rs) (hm : most < 1000) (h : Str) (hk : PyData.strOk h = true) :
    s_column_of K ca [tabD hs rs, .str h] = match idxS hs h with | some j => .ok (.lst true (rs.map fun r => r.getD j .non)) | none => .ex 1 := by
  have o1 := own_strs hs
  have o2 := own_rows t
  unfold s_column_of r_column_of
  simp (disch := first | decide | omega | assumption) only [sz_le, sz_lt, v_mod, v_div, v_range, v_mul, ev_fn, ev_start, ev_seq, ev_nil, ev_nx, ev_rt, ev_bk, ev_ct, ev_ex, ev_ono, ev_onx, ev_ort, ev_oex, ev_set, ev_ret, ev_if, ev_expr, ev_raise, ev_c, ev_peek, ev_var, ev_mov, ev_op, ev_ix, ev_un, ev_isi, ev_callB, ev_call, ev_callF, ev_esn, ev_esc, ev_tup, ev_lst, ev_tof, ev_and, ev_or, ev_not, ev_yes, ev_eand, ev_eor, ev_eif, ev_chain, ev_sl, ev_pn, ev_ps, ev_lc, ev_asg, ev_gn, ev_gt, ev_gc, ev_gnil, ev_for, ev_while, ev_range, ev_iof, ev_ienum, ev_append, ev_tidx, ev_isc, ev_try, ev_add, ev_sub, re_bok, re_bex, re_bno, re_of, re_sok, re_sex, re_sno, List.map_cons, List.map_nil, List.length_cons, List.length_nil, List.replicate_succ, List.replicate_zero, List.cons_append, List.nil_append, List.getElem?_cons_zero, List.getElem?_cons_succ, List.getElem?_nil, List.set_cons_zero, List.set_cons_succ, List.set_nil, Nat.reduceAdd, Nat.reduceSub, Nat.reduceEqDiff, ↓reduceIte, Bool.not_true, Bool.not_false, Bool.false_eq_true, D.frz, D.frzs, eq_int, ne_int, eq_bl, ne_bl, decide_true, decide_false, Option.bind_some, Option.map_some, wipeE, v_isN, v_notN, non_int, non_str, non_non, true_or, or_true, D.clean, D.cleans, D.ownss, D.owns, Bool.or_false, Bool.false_or, Bool.and_true, Bool.true_and, v_add, v_sub, v_lt, v_le, v_gt, v_ge, v_neg, v_lenL, v_lenT, v_lts, frz_tab t, p_column_at t h hk]
  cases q : idxS hs h with
  | none => simp (disch := first | decide | omega | assumption) only [sz_le, sz_lt, v_mod, v_div, v_range, v_mul, ev_fn, ev_start, ev_seq, ev_nil, ev_nx, ev_rt, ev_bk, ev_ct, ev_ex, ev_ono, ev_onx, ev_ort, ev_oex, ev_set, ev_ret, ev_if, ev_expr, ev_raise, ev_c, ev_peek, ev_var, ev_mov, ev_op, ev_ix, ev_un, ev_isi, ev_callB, ev_call, ev_callF, ev_esn, ev_esc, ev_tup, ev_lst, ev_tof, ev_and, ev_or, ev_not, ev_yes, ev_eand, ev_eor, ev_eif, ev_chain, ev_sl, ev_pn, ev_ps, ev_lc, ev_asg, ev_gn, ev_gt, ev_gc, ev_gnil, ev_for, ev_while, ev_range, ev_iof, ev_ienum, ev_append, ev_tidx, ev_isc, ev_try, ev_add, ev_sub, re_bok, re_bex, re_bno, re_of, re_sok, re_sex, re_sno, List.map_cons, List.map_nil, List.length_cons, List.length_nil, List.replicate_succ, List.replicate_zero, List.cons_append, List.nil_append, List.getElem?_cons_zero, List.getElem?_cons_succ, List.getElem?_nil, List.set_cons_zero, List.set_cons_succ, List.set_nil, Nat.reduceAdd, Nat.reduceSub, Nat.reduceEqDiff, ↓reduceIte, Bool.not_true, Bool.not_false, Bool.false_eq_true, D.frz, D.frzs, eq_int, ne_int, eq_bl, ne_bl, decide_true, decide_false, Option.bind_some, Option.map_some, wipeE, v_isN, v_notN, non_int, non_str, non_non, true_or, or_true, D.clean, D.cleans, D.ownss, D.owns, Bool.or_false, Bool.false_or, Bool.and_true, Bool.true_and, v_add, v_sub, v_lt, v_le, v_gt, v_ge, v_neg, v_lenL, v_lenT, v_lts, ]
  | some j =>
    have hj : j < hs.length := (List.getElem?_eq_some_iff.mp (idxS_at q).1).1
    simp (disch := first | decide | omega | assumption) only [sz_le, sz_lt, v_mod, v_div, v_range, v_mul, ev_fn, ev_start, ev_seq, ev_nil, ev_nx, ev_rt, ev_bk, ev_ct, ev_ex, ev_ono, ev_onx, ev_ort, ev_oex, ev_set, ev_ret, ev_if, ev_expr, ev_raise, ev_c, ev_peek, ev_var, ev_mov, ev_op, ev_ix, ev_un, ev_isi, ev_callB, ev_call, ev_callF, ev_esn, ev_esc, ev_tup, ev_lst, ev_tof, ev_and, ev_or, ev_not, ev_yes, ev_eand, ev_eor, ev_eif, ev_chain, ev_sl, ev_pn, ev_ps, ev_lc, ev_asg, ev_gn, ev_gt, ev_gc, ev_gnil, ev_for, ev_while, ev_range, ev_iof, ev_ienum, ev_append, ev_tidx, ev_isc, ev_try, ev_add, ev_sub, re_bok, re_bex, re_bno, re_of, re_sok, re_sex, re_sno, List.map_cons, List.map_nil, List.length_cons, List.length_nil, List.replicate_succ, List.replicate_zero, List.cons_append, List.nil_append, List.getElem?_cons_zero, List.getElem?_cons_succ, List.getElem?_nil, List.set_cons_zero, List.set_cons_succ, List.set_nil, Nat.reduceAdd, Nat.reduceSub, Nat.reduceEqDiff, ↓reduceIte, Bool.not_true, Bool.not_false, Bool.false_eq_true, D.frz, D.frzs, eq_int, ne_int, eq_bl, ne_bl, decide_true, decide_false, Option.bind_some, Option.map_some, wipeE, v_isN, v_notN, non_int, non_str, non_non, true_or, or_true, D.clean, D.cleans, D.ownss, D.owns, Bool.or_false, Bool.false_or, Bool.and_true, Bool.true_and, v_add, v_sub, v_lt, v_le, v_gt, v_ge, v_neg, v_lenL, v_lenT, v_lts, tabD, v_ix1 (show (D.tup (rs.map .tup)).owns = false from o2), frzs_none _ o2]
    rw [lcL_map (y := fun d => match d with | .tup r => r.getD j .non | _ => .non) (fun d hd => by
      obtain ⟨r, hr, rfl⟩ := List.mem_map.mp hd
      have hj' : j < r.length := by rw [t.len r hr]; exact hj
      have g : r[j]? = some (r.getD j .non) := by rw [List.getD_eq_getElem?_getD, List.getElem?_eq_getElem hj']; rfl
      have w : isW (r.getD j .non) := t.w r hr _ (List.mem_of_getElem? g)
      refine ⟨_, [some (.tup [.tup (hs.map .str), .tup (rs.map .tup)]), some (.str h), some (.int (j : Nat)), some (.tup r)], rfl, ?_, rfl⟩
      simp (disch := first | decide | omega | assumption) only [sz_le, sz_lt, v_mod, v_div, v_range, v_mul, ev_fn, ev_start, ev_seq, ev_nil, ev_nx, ev_rt, ev_bk, ev_ct, ev_ex, ev_ono, ev_onx, ev_ort, ev_oex, ev_set, ev_ret, ev_if, ev_expr, ev_raise, ev_c, ev_peek, ev_var, ev_mov, ev_op, ev_ix, ev_un, ev_isi, ev_callB, ev_call, ev_callF, ev_esn, ev_esc, ev_tup, ev_lst, ev_tof, ev_and, ev_or, ev_not, ev_yes, ev_eand, ev_eor, ev_eif, ev_chain, ev_sl, ev_pn, ev_ps, ev_lc, ev_asg, ev_gn, ev_gt, ev_gc, ev_gnil, ev_for, ev_while, ev_range, ev_iof, ev_ienum, ev_append, ev_tidx, ev_isc, ev_try, ev_add, ev_sub, re_bok, re_bex, re_bno, re_of, re_sok, re_sex, re_sno, List.map_cons, List.map_nil, List.length_cons, List.length_nil, List.replicate_succ, List.replicate_zero, List.cons_append, List.nil_append, List.getElem?_cons_zero, List.getElem?_cons_succ, List.getElem?_nil, List.set_cons_zero, List.set_cons_succ, List.set_nil, Nat.reduceAdd, Nat.reduceSub, Nat.reduceEqDiff, ↓reduceIte, Bool.not_true, Bool.not_false, Bool.false_eq_true, D.frz, D.frzs, eq_int, ne_int, eq_bl, ne_bl, decide_true, decide_false, Option.bind_some, Option.map_some, wipeE, v_isN, v_notN, non_int, non_str, non_non, true_or, or_true, D.clean, D.cleans, D.ownss, D.owns, Bool.or_false, Bool.false_or, Bool.and_true, Bool.true_and, v_add, v_sub, v_lt, v_le, v_gt, v_ge, v_neg, v_lenL, v_lenT, v_lts, v_ixT g (own_w w)]) (by rw [List.length_map]; exact sz_le (by have := t.few; simp only [List.length_nil]; omega))]
    simp (disch := first | decide | omega | assumption) only [sz_le, sz_lt, v_mod, v_div, v_range, v_mul, ev_fn, ev_start, ev_seq, ev_nil, ev_nx, ev_rt, ev_bk, ev_ct, ev_ex, ev_ono, ev_onx, ev_ort, ev_oex, ev_set, ev_ret, ev_if, ev_expr, ev_raise, ev_c, ev_peek, ev_var, ev_mov, ev_op, ev_ix, ev_un, ev_isi, ev_callB, ev_call, ev_callF, ev_esn, ev_esc, ev_tup, ev_lst, ev_tof, ev_and, ev_or, ev_not, ev_yes, ev_eand, ev_eor, ev_eif, ev_chain, ev_sl, ev_pn, ev_ps, ev_lc, ev_asg, ev_gn, ev_gt, ev_gc, ev_gnil, ev_for, ev_while, ev_range, ev_iof, ev_ienum, ev_append, ev_tidx, ev_isc, ev_try, ev_add, ev_sub, re_bok, re_bex, re_bno, re_of, re_sok, re_sex, re_sno, List.map_cons, List.map_nil, List.length_cons, List.length_nil, List.replicate_succ, List.replicate_zero, List.cons_append, List.nil_append, List.getElem?_cons_zero, List.getElem?_cons_succ, List.getElem?_nil, List.set_cons_zero, List.set_cons_succ, List.set_nil, Nat.reduceAdd, Nat.reduceSub, Nat.reduceEqDiff, ↓reduceIte, Bool.not_true, Bool.not_false, Bool.false_eq_true, D.frz, D.frzs, eq_int, ne_int, eq_bl, ne_bl, decide_true, decide_false, Option.bind_some, Option.map_some, wipeE, v_isN, v_notN, non_int, non_str, non_non, true_or, or_true, D.clean, D.cleans, D.ownss, D.owns, Bool.or_false, Bool.false_or, Bool.and_true, Bool.true_and, v_add, v_sub, v_lt, v_le, v_gt, v_ge, v_neg, v_lenL, v_lenT, v_lts, List.map_map]
    rfl
end
end Gk72

namespace Gk72
open PySem PySem.Spec OL
section
variable {K : PySem.W.Frag} {ca : Nat → Addr}
theorem p_is_fault {x : D} (h : isW x) : s_is_fault K ca [x] = .ok (.bl false) := by
  unfold s_is_fault r_is_fault
  simp (disch := first | decide | omega | assumption) only [sz_le, sz_lt, v_mod, v_div, v_range, v_mul, ev_fn, ev_start, ev_seq, ev_nil, ev_nx, ev_rt, ev_bk, ev_ct, ev_ex, ev_ono, ev_onx, ev_ort, ev_oex, ev_set, ev_ret, ev_if, ev_expr, ev_raise, ev_c, ev_peek, ev_var, ev_mov, ev_op, ev_ix, ev_un, ev_isi, ev_callB, ev_call, ev_callF, ev_esn, ev_esc, ev_tup, ev_lst, ev_tof, ev_and, ev_or, ev_not, ev_yes, ev_eand, ev_eor, ev_eif, ev_chain, ev_sl, ev_pn, ev_ps, ev_lc, ev_asg, ev_gn, ev_gt, ev_gc, ev_gnil, ev_for, ev_while, ev_range, ev_iof, ev_ienum, ev_append, ev_tidx, ev_isc, ev_try, ev_add, ev_sub, re_bok, re_bex, re_bno, re_of, re_sok, re_sex, re_sno, List.map_cons, List.map_nil, List.length_cons, List.length_nil, List.replicate_succ, List.replicate_zero, List.cons_append, List.nil_append, List.getElem?_cons_zero, List.getElem?_cons_succ, List.getElem?_nil, List.set_cons_zero, List.set_cons_succ, List.set_nil, Nat.reduceAdd, Nat.reduceSub, Nat.reduceEqDiff, ↓reduceIte, Bool.not_true, Bool.not_false, Bool.false_eq_true, D.frz, D.frzs, eq_int, ne_int, eq_bl, ne_bl, decide_true, decide_false, Option.bind_some, Option.map_some, wipeE, v_isN, v_notN, non_int, non_str, non_non, true_or, or_true, D.clean, D.cleans, D.ownss, D.owns, Bool.or_false, Bool.false_or, Bool.and_true, Bool.true_and, v_add, v_sub, v_lt, v_le, v_gt, v_ge, v_neg, v_lenL, v_lenT, v_lts, v_isTup (exn_w h), tup_w h]
theorem p_is_text {x : D} (h : isW x) : s_is_text K ca [x] = .ok (.bl x.isStr) := by
  unfold s_is_text r_is_text
  simp (disch := first | decide | omega | assumption) only [sz_le, sz_lt, v_mod, v_div, v_range, v_mul, ev_fn, ev_start, ev_seq, ev_nil, ev_nx, ev_rt, ev_bk, ev_ct, ev_ex, ev_ono, ev_onx, ev_ort, ev_oex, ev_set, ev_ret, ev_if, ev_expr, ev_raise, ev_c, ev_peek, ev_var, ev_mov, ev_op, ev_ix, ev_un, ev_isi, ev_callB, ev_call, ev_callF, ev_esn, ev_esc, ev_tup, ev_lst, ev_tof, ev_and, ev_or, ev_not, ev_yes, ev_eand, ev_eor, ev_eif, ev_chain, ev_sl, ev_pn, ev_ps, ev_lc, ev_asg, ev_gn, ev_gt, ev_gc, ev_gnil, ev_for, ev_while, ev_range, ev_iof, ev_ienum, ev_append, ev_tidx, ev_isc, ev_try, ev_add, ev_sub, re_bok, re_bex, re_bno, re_of, re_sok, re_sex, re_sno, List.map_cons, List.map_nil, List.length_cons, List.length_nil, List.replicate_succ, List.replicate_zero, List.cons_append, List.nil_append, List.getElem?_cons_zero, List.getElem?_cons_succ, List.getElem?_nil, List.set_cons_zero, List.set_cons_succ, List.set_nil, Nat.reduceAdd, Nat.reduceSub, Nat.reduceEqDiff, ↓reduceIte, Bool.not_true, Bool.not_false, Bool.false_eq_true, D.frz, D.frzs, eq_int, ne_int, eq_bl, ne_bl, decide_true, decide_false, Option.bind_some, Option.map_some, wipeE, v_isN, v_notN, non_int, non_str, non_non, true_or, or_true, D.clean, D.cleans, D.ownss, D.owns, Bool.or_false, Bool.false_or, Bool.and_true, Bool.true_and, v_add, v_sub, v_lt, v_le, v_gt, v_ge, v_neg, v_lenL, v_lenT, v_lts, v_isStr (exn_w h)]
theorem p_as_number (i : Int) : s_as_number K ca [.int i] = .ok (.int i) := by
  unfold s_as_number r_as_number
  simp (disch := first | decide | omega | assumption) only [sz_le, sz_lt, v_mod, v_div, v_range, v_mul, ev_fn, ev_start, ev_seq, ev_nil, ev_nx, ev_rt, ev_bk, ev_ct, ev_ex, ev_ono, ev_onx, ev_ort, ev_oex, ev_set, ev_ret, ev_if, ev_expr, ev_raise, ev_c, ev_peek, ev_var, ev_mov, ev_op, ev_ix, ev_un, ev_isi, ev_callB, ev_call, ev_callF, ev_esn, ev_esc, ev_tup, ev_lst, ev_tof, ev_and, ev_or, ev_not, ev_yes, ev_eand, ev_eor, ev_eif, ev_chain, ev_sl, ev_pn, ev_ps, ev_lc, ev_asg, ev_gn, ev_gt, ev_gc, ev_gnil, ev_for, ev_while, ev_range, ev_iof, ev_ienum, ev_append, ev_tidx, ev_isc, ev_try, ev_add, ev_sub, re_bok, re_bex, re_bno, re_of, re_sok, re_sex, re_sno, List.map_cons, List.map_nil, List.length_cons, List.length_nil, List.replicate_succ, List.replicate_zero, List.cons_append, List.nil_append, List.getElem?_cons_zero, List.getElem?_cons_succ, List.getElem?_nil, List.set_cons_zero, List.set_cons_succ, List.set_nil, Nat.reduceAdd, Nat.reduceSub, Nat.reduceEqDiff, ↓reduceIte, Bool.not_true, Bool.not_false, Bool.false_eq_true, D.frz, D.frzs, eq_int, ne_int, eq_bl, ne_bl, decide_true, decide_false, Option.bind_some, Option.map_some, wipeE, v_isN, v_notN, non_int, non_str, non_non, true_or, or_true, D.clean, D.cleans, D.ownss, D.owns, Bool.or_false, Bool.false_or, Bool.and_true, Bool.true_and, v_add, v_sub, v_lt, v_le, v_gt, v_ge, v_neg, v_lenL, v_lenT, v_lts, non_int]
theorem v_str_str {x : Str} : OL.gStr [.str x] = some (.str x) := by rfl
theorem p_as_text (x : Str) : s_as_text K ca [.str x] = .ok (.str x) := by
  unfold s_as_text r_as_text
  simp (disch := first | decide | omega | assumption) only [sz_le, sz_lt, v_mod, v_div, v_range, v_mul, ev_fn, ev_start, ev_seq, ev_nil, ev_nx, ev_rt, ev_bk, ev_ct, ev_ex, ev_ono, ev_onx, ev_ort, ev_oex, ev_set, ev_ret, ev_if, ev_expr, ev_raise, ev_c, ev_peek, ev_var, ev_mov, ev_op, ev_ix, ev_un, ev_isi, ev_callB, ev_call, ev_callF, ev_esn, ev_esc, ev_tup, ev_lst, ev_tof, ev_and, ev_or, ev_not, ev_yes, ev_eand, ev_eor, ev_eif, ev_chain, ev_sl, ev_pn, ev_ps, ev_lc, ev_asg, ev_gn, ev_gt, ev_gc, ev_gnil, ev_for, ev_while, ev_range, ev_iof, ev_ienum, ev_append, ev_tidx, ev_isc, ev_try, ev_add, ev_sub, re_bok, re_bex, re_bno, re_of, re_sok, re_sex, re_sno, List.map_cons, List.map_nil, List.length_cons, List.length_nil, List.replicate_succ, List.replicate_zero, List.cons_append, List.nil_append, List.getElem?_cons_zero, List.getElem?_cons_succ, List.getElem?_nil, List.set_cons_zero, List.set_cons_succ, List.set_nil, Nat.reduceAdd, Nat.reduceSub, Nat.reduceEqDiff, ↓reduceIte, Bool.not_true, Bool.not_false, Bool.false_eq_true, D.frz, D.frzs, eq_int, ne_int, eq_bl, ne_bl, decide_true, decide_false, Option.bind_some, Option.map_some, wipeE, v_isN, v_notN, non_int, non_str, non_non, true_or, or_true, D.clean, D.cleans, D.ownss, D.owns, Bool.or_false, Bool.false_or, Bool.and_true, Bool.true_and, v_add, v_sub, v_lt, v_le, v_gt, v_ge, v_neg, v_lenL, v_lenT, v_lts, non_str, v_str_str]
theorem p_fault (x : Str) : s_fault K ca [.str x] = .ok (.tup [.str (Str.ofString "fault"), .str x]) := by
  unfold s_fault r_fault
  simp (disch := first | decide | omega | assumption) only [sz_le, sz_lt, v_mod, v_div, v_range, v_mul, ev_fn, ev_start, ev_seq, ev_nil, ev_nx, ev_rt, ev_bk, ev_ct, ev_ex, ev_ono, ev_onx, ev_ort, ev_oex, ev_set, ev_ret, ev_if, ev_expr, ev_raise, ev_c, ev_peek, ev_var, ev_mov, ev_op, ev_ix, ev_un, ev_isi, ev_callB, ev_call, ev_callF, ev_esn, ev_esc, ev_tup, ev_lst, ev_tof, ev_and, ev_or, ev_not, ev_yes, ev_eand, ev_eor, ev_eif, ev_chain, ev_sl, ev_pn, ev_ps, ev_lc, ev_asg, ev_gn, ev_gt, ev_gc, ev_gnil, ev_for, ev_while, ev_range, ev_iof, ev_ienum, ev_append, ev_tidx, ev_isc, ev_try, ev_add, ev_sub, re_bok, re_bex, re_bno, re_of, re_sok, re_sex, re_sno, List.map_cons, List.map_nil, List.length_cons, List.length_nil, List.replicate_succ, List.replicate_zero, List.cons_append, List.nil_append, List.getElem?_cons_zero, List.getElem?_cons_succ, List.getElem?_nil, List.set_cons_zero, List.set_cons_succ, List.set_nil, Nat.reduceAdd, Nat.reduceSub, Nat.reduceEqDiff, ↓reduceIte, Bool.not_true, Bool.not_false, Bool.false_eq_true, D.frz, D.frzs, eq_int, ne_int, eq_bl, ne_bl, decide_true, decide_false, Option.bind_some, Option.map_some, wipeE, v_isN, v_notN, non_int, non_str, non_non, true_or, or_true, D.clean, D.cleans, D.ownss, D.owns, Bool.or_false, Bool.false_or, Bool.and_true, Bool.true_and, v_add, v_sub, v_lt, v_le, v_gt, v_ge, v_neg, v_lenL, v_lenT, v_lts, ]
theorem p_same {x y : D} (hx : isW x) (hy : isW y) (nx : x.isNon = false) (ny : y.isNon = false) : s_same_worth K ca [x, y] = .ok (.bl (weq x y)) := by
  rcases w_cases hx nx with ⟨i, rfl⟩ | ⟨s, rfl, hs⟩ <;> rcases w_cases hy ny with ⟨j, rfl⟩ | ⟨u, rfl, hu⟩ <;> unfold s_same_worth r_same_worth <;>
    simp (disch := first | decide | omega | assumption) only [sz_le, sz_lt, v_mod, v_div, v_range, v_mul, ev_fn, ev_start, ev_seq, ev_nil, ev_nx, ev_rt, ev_bk, ev_ct, ev_ex, ev_ono, ev_onx, ev_ort, ev_oex, ev_set, ev_ret, ev_if, ev_expr, ev_raise, ev_c, ev_peek, ev_var, ev_mov, ev_op, ev_ix, ev_un, ev_isi, ev_callB, ev_call, ev_callF, ev_esn, ev_esc, ev_tup, ev_lst, ev_tof, ev_and, ev_or, ev_not, ev_yes, ev_eand, ev_eor, ev_eif, ev_chain, ev_sl, ev_pn, ev_ps, ev_lc, ev_asg, ev_gn, ev_gt, ev_gc, ev_gnil, ev_for, ev_while, ev_range, ev_iof, ev_ienum, ev_append, ev_tidx, ev_isc, ev_try, ev_add, ev_sub, re_bok, re_bex, re_bno, re_of, re_sok, re_sex, re_sno, List.map_cons, List.map_nil, List.length_cons, List.length_nil, List.replicate_succ, List.replicate_zero, List.cons_append, List.nil_append, List.getElem?_cons_zero, List.getElem?_cons_succ, List.getElem?_nil, List.set_cons_zero, List.set_cons_succ, List.set_nil, Nat.reduceAdd, Nat.reduceSub, Nat.reduceEqDiff, ↓reduceIte, Bool.not_true, Bool.not_false, Bool.false_eq_true, D.frz, D.frzs, eq_int, ne_int, eq_bl, ne_bl, decide_true, decide_false, Option.bind_some, Option.map_some, wipeE, v_isN, v_notN, non_int, non_str, non_non, true_or, or_true, D.clean, D.cleans, D.ownss, D.owns, Bool.or_false, Bool.false_or, Bool.and_true, Bool.true_and, v_add, v_sub, v_lt, v_le, v_gt, v_ge, v_neg, v_lenL, v_lenT, v_lts, p_is_fault hx, p_is_fault hy, p_is_text hx, p_is_text hy, isStr_int, isStr_str, non_int, non_str, p_as_number, eq_w hx hy] <;> rfl
theorem p_ahead {x y : D} (hx : isW x) (hy : isW y) (nx : x.isNon = false) (ny : y.isNon = false) : s_ahead_of K ca [x, y] = if x.isStr = y.isStr then .ok (.int (if lessW x y = true then 1 else 0)) else .ok (.tup [.str (Str.ofString "fault"), .str (Str.ofString "kind")]) := by
  rcases w_cases hx nx with ⟨i, rfl⟩ | ⟨s, rfl, hs⟩ <;> rcases w_cases hy ny with ⟨j, rfl⟩ | ⟨u, rfl, hu⟩ <;> unfold s_ahead_of r_ahead_of <;>
    simp (disch := first | decide | omega | assumption) only [sz_le, sz_lt, v_mod, v_div, v_range, v_mul, ev_fn, ev_start, ev_seq, ev_nil, ev_nx, ev_rt, ev_bk, ev_ct, ev_ex, ev_ono, ev_onx, ev_ort, ev_oex, ev_set, ev_ret, ev_if, ev_expr, ev_raise, ev_c, ev_peek, ev_var, ev_mov, ev_op, ev_ix, ev_un, ev_isi, ev_callB, ev_call, ev_callF, ev_esn, ev_esc, ev_tup, ev_lst, ev_tof, ev_and, ev_or, ev_not, ev_yes, ev_eand, ev_eor, ev_eif, ev_chain, ev_sl, ev_pn, ev_ps, ev_lc, ev_asg, ev_gn, ev_gt, ev_gc, ev_gnil, ev_for, ev_while, ev_range, ev_iof, ev_ienum, ev_append, ev_tidx, ev_isc, ev_try, ev_add, ev_sub, re_bok, re_bex, re_bno, re_of, re_sok, re_sex, re_sno, List.map_cons, List.map_nil, List.length_cons, List.length_nil, List.replicate_succ, List.replicate_zero, List.cons_append, List.nil_append, List.getElem?_cons_zero, List.getElem?_cons_succ, List.getElem?_nil, List.set_cons_zero, List.set_cons_succ, List.set_nil, Nat.reduceAdd, Nat.reduceSub, Nat.reduceEqDiff, ↓reduceIte, Bool.not_true, Bool.not_false, Bool.false_eq_true, D.frz, D.frzs, eq_int, ne_int, eq_bl, ne_bl, decide_true, decide_false, Option.bind_some, Option.map_some, wipeE, v_isN, v_notN, non_int, non_str, non_non, true_or, or_true, D.clean, D.cleans, D.ownss, D.owns, Bool.or_false, Bool.false_or, Bool.and_true, Bool.true_and, v_add, v_sub, v_lt, v_le, v_gt, v_ge, v_neg, v_lenL, v_lenT, v_lts, p_is_text hx, p_is_text hy, isStr_int, isStr_str, non_int, non_str, p_as_number, p_as_text, v_int_bl, p_fault, reduceCtorEq] <;> rfl
/-- the three tests -/
def opS : Nat → Str
  | 0 => Str.ofString "="
  | 1 => Str.ofString "<"
  | _ => Str.ofString ">"
def opP (o : Nat) (x k : D) : Bool := match o with
  | 0 => weq x k
  | 1 => lessW x k
  | _ => lessW k x
theorem less_kind {x y : D} (h : ¬ x.isStr = y.isStr) : lessW x y = false := by
  cases x <;> cases y <;> first | rfl | (exact absurd rfl h)
theorem p_paired_eq {x k : D} (hx : isW x) (hk : isW k) (nx : x.isNon = false) (nk : k.isNon = false) : s_paired K ca [.str (Str.ofString "="), x, k] = .ok (.int (if weq x k = true then 1 else 0)) := by
  unfold s_paired r_paired
  simp (disch := first | decide | omega | assumption) only [sz_le, sz_lt, v_mod, v_div, v_range, v_mul, ev_fn, ev_start, ev_seq, ev_nil, ev_nx, ev_rt, ev_bk, ev_ct, ev_ex, ev_ono, ev_onx, ev_ort, ev_oex, ev_set, ev_ret, ev_if, ev_expr, ev_raise, ev_c, ev_peek, ev_var, ev_mov, ev_op, ev_ix, ev_un, ev_isi, ev_callB, ev_call, ev_callF, ev_esn, ev_esc, ev_tup, ev_lst, ev_tof, ev_and, ev_or, ev_not, ev_yes, ev_eand, ev_eor, ev_eif, ev_chain, ev_sl, ev_pn, ev_ps, ev_lc, ev_asg, ev_gn, ev_gt, ev_gc, ev_gnil, ev_for, ev_while, ev_range, ev_iof, ev_ienum, ev_append, ev_tidx, ev_isc, ev_try, ev_add, ev_sub, re_bok, re_bex, re_bno, re_of, re_sok, re_sex, re_sno, List.map_cons, List.map_nil, List.length_cons, List.length_nil, List.replicate_succ, List.replicate_zero, List.cons_append, List.nil_append, List.getElem?_cons_zero, List.getElem?_cons_succ, List.getElem?_nil, List.set_cons_zero, List.set_cons_succ, List.set_nil, Nat.reduceAdd, Nat.reduceSub, Nat.reduceEqDiff, ↓reduceIte, Bool.not_true, Bool.not_false, Bool.false_eq_true, D.frz, D.frzs, eq_int, ne_int, eq_bl, ne_bl, decide_true, decide_false, Option.bind_some, Option.map_some, wipeE, v_isN, v_notN, non_int, non_str, non_non, true_or, or_true, D.clean, D.cleans, D.ownss, D.owns, Bool.or_false, Bool.false_or, Bool.and_true, Bool.true_and, v_add, v_sub, v_lt, v_le, v_gt, v_ge, v_neg, v_lenL, v_lenT, v_lts, p_is_fault hx, p_is_fault hk, eq_str (x := Str.ofString "=") (y := Str.ofString "&") (b := false) (by decide +kernel) (by decide +kernel) (by decide +kernel), eq_str (x := Str.ofString "=") (y := Str.ofString "=") (b := true) (by decide +kernel) (by decide +kernel) (by decide +kernel), p_same hx hk nx nk, frz_w hx, frz_w hk, own_w hx, own_w hk, v_int_bl]
theorem p_paired_lt {x k : D} (hx : isW x) (hk : isW k) (nx : x.isNon = false) (nk : k.isNon = false) : s_paired K ca [.str (Str.ofString "<"), x, k] = if x.isStr = k.isStr then .ok (.int (if lessW x k = true then 1 else 0)) else .ok (.tup [.str (Str.ofString "fault"), .str (Str.ofString "kind")]) := by
  unfold s_paired r_paired
  simp (disch := first | decide | omega | assumption) only [sz_le, sz_lt, v_mod, v_div, v_range, v_mul, ev_fn, ev_start, ev_seq, ev_nil, ev_nx, ev_rt, ev_bk, ev_ct, ev_ex, ev_ono, ev_onx, ev_ort, ev_oex, ev_set, ev_ret, ev_if, ev_expr, ev_raise, ev_c, ev_peek, ev_var, ev_mov, ev_op, ev_ix, ev_un, ev_isi, ev_callB, ev_call, ev_callF, ev_esn, ev_esc, ev_tup, ev_lst, ev_tof, ev_and, ev_or, ev_not, ev_yes, ev_eand, ev_eor, ev_eif, ev_chain, ev_sl, ev_pn, ev_ps, ev_lc, ev_asg, ev_gn, ev_gt, ev_gc, ev_gnil, ev_for, ev_while, ev_range, ev_iof, ev_ienum, ev_append, ev_tidx, ev_isc, ev_try, ev_add, ev_sub, re_bok, re_bex, re_bno, re_of, re_sok, re_sex, re_sno, List.map_cons, List.map_nil, List.length_cons, List.length_nil, List.replicate_succ, List.replicate_zero, List.cons_append, List.nil_append, List.getElem?_cons_zero, List.getElem?_cons_succ, List.getElem?_nil, List.set_cons_zero, List.set_cons_succ, List.set_nil, Nat.reduceAdd, Nat.reduceSub, Nat.reduceEqDiff, ↓reduceIte, Bool.not_true, Bool.not_false, Bool.false_eq_true, D.frz, D.frzs, eq_int, ne_int, eq_bl, ne_bl, decide_true, decide_false, Option.bind_some, Option.map_some, wipeE, v_isN, v_notN, non_int, non_str, non_non, true_or, or_true, D.clean, D.cleans, D.ownss, D.owns, Bool.or_false, Bool.false_or, Bool.and_true, Bool.true_and, v_add, v_sub, v_lt, v_le, v_gt, v_ge, v_neg, v_lenL, v_lenT, v_lts, p_is_fault hx, p_is_fault hk, eq_str (x := Str.ofString "<") (y := Str.ofString "&") (b := false) (by decide +kernel) (by decide +kernel) (by decide +kernel), eq_str (x := Str.ofString "<") (y := Str.ofString "=") (b := false) (by decide +kernel) (by decide +kernel) (by decide +kernel), eq_str (x := Str.ofString "<") (y := Str.ofString "<") (b := true) (by decide +kernel) (by decide +kernel) (by decide +kernel), p_ahead hx hk nx nk, frz_w hx, frz_w hk, own_w hx, own_w hk]
  by_cases e : x.isStr = k.isStr <;> simp (disch := first | decide | omega | assumption) only [sz_le, sz_lt, v_mod, v_div, v_range, v_mul, ev_fn, ev_start, ev_seq, ev_nil, ev_nx, ev_rt, ev_bk, ev_ct, ev_ex, ev_ono, ev_onx, ev_ort, ev_oex, ev_set, ev_ret, ev_if, ev_expr, ev_raise, ev_c, ev_peek, ev_var, ev_mov, ev_op, ev_ix, ev_un, ev_isi, ev_callB, ev_call, ev_callF, ev_esn, ev_esc, ev_tup, ev_lst, ev_tof, ev_and, ev_or, ev_not, ev_yes, ev_eand, ev_eor, ev_eif, ev_chain, ev_sl, ev_pn, ev_ps, ev_lc, ev_asg, ev_gn, ev_gt, ev_gc, ev_gnil, ev_for, ev_while, ev_range, ev_iof, ev_ienum, ev_append, ev_tidx, ev_isc, ev_try, ev_add, ev_sub, re_bok, re_bex, re_bno, re_of, re_sok, re_sex, re_sno, List.map_cons, List.map_nil, List.length_cons, List.length_nil, List.replicate_succ, List.replicate_zero, List.cons_append, List.nil_append, List.getElem?_cons_zero, List.getElem?_cons_succ, List.getElem?_nil, List.set_cons_zero, List.set_cons_succ, List.set_nil, Nat.reduceAdd, Nat.reduceSub, Nat.reduceEqDiff, ↓reduceIte, Bool.not_true, Bool.not_false, Bool.false_eq_true, D.frz, D.frzs, eq_int, ne_int, eq_bl, ne_bl, decide_true, decide_false, Option.bind_some, Option.map_some, wipeE, v_isN, v_notN, non_int, non_str, non_non, true_or, or_true, D.clean, D.cleans, D.ownss, D.owns, Bool.or_false, Bool.false_or, Bool.and_true, Bool.true_and, v_add, v_sub, v_lt, v_le, v_gt, v_ge, v_neg, v_lenL, v_lenT, v_lts, e]
theorem one_if {b : Bool} : decide ((if b = true then (1 : Int) else 0) = 1) = b := by cases b <;> rfl
theorem fault_dat : ∀ d ∈ [D.str (Str.ofString "fault"), D.str (Str.ofString "kind")], d.dat 0 := by
  intro d hd
  simp only [List.mem_cons, List.not_mem_nil, or_false] at hd
  rcases hd with rfl | rfl <;> exact dat_w (show PyData.strOk _ = true by decide +kernel)
theorem p_fits {x k : D} (o : Nat) (ho : o < 3) (hx : isW x) (hk : isW k) (nk : k.isNon = false) : s_fits K ca [x, .str (opS o), k] = .ok (.bl (!x.isNon && opP o x k)) := by
  unfold s_fits r_fits
  cases nx : x.isNon with
  | true => simp (disch := first | decide | omega | assumption) only [sz_le, sz_lt, v_mod, v_div, v_range, v_mul, ev_fn, ev_start, ev_seq, ev_nil, ev_nx, ev_rt, ev_bk, ev_ct, ev_ex, ev_ono, ev_onx, ev_ort, ev_oex, ev_set, ev_ret, ev_if, ev_expr, ev_raise, ev_c, ev_peek, ev_var, ev_mov, ev_op, ev_ix, ev_un, ev_isi, ev_callB, ev_call, ev_callF, ev_esn, ev_esc, ev_tup, ev_lst, ev_tof, ev_and, ev_or, ev_not, ev_yes, ev_eand, ev_eor, ev_eif, ev_chain, ev_sl, ev_pn, ev_ps, ev_lc, ev_asg, ev_gn, ev_gt, ev_gc, ev_gnil, ev_for, ev_while, ev_range, ev_iof, ev_ienum, ev_append, ev_tidx, ev_isc, ev_try, ev_add, ev_sub, re_bok, re_bex, re_bno, re_of, re_sok, re_sex, re_sno, List.map_cons, List.map_nil, List.length_cons, List.length_nil, List.replicate_succ, List.replicate_zero, List.cons_append, List.nil_append, List.getElem?_cons_zero, List.getElem?_cons_succ, List.getElem?_nil, List.set_cons_zero, List.set_cons_succ, List.set_nil, Nat.reduceAdd, Nat.reduceSub, Nat.reduceEqDiff, ↓reduceIte, Bool.not_true, Bool.not_false, Bool.false_eq_true, D.frz, D.frzs, eq_int, ne_int, eq_bl, ne_bl, decide_true, decide_false, Option.bind_some, Option.map_some, wipeE, v_isN, v_notN, non_int, non_str, non_non, true_or, or_true, D.clean, D.cleans, D.ownss, D.owns, Bool.or_false, Bool.false_or, Bool.and_true, Bool.true_and, v_add, v_sub, v_lt, v_le, v_gt, v_ge, v_neg, v_lenL, v_lenT, v_lts, nx, Bool.false_and]
  | false =>
    rcases (show o = 0 ∨ o = 1 ∨ o = 2 by omega) with rfl | rfl | rfl
    · simp (disch := first | decide | omega | assumption) only [sz_le, sz_lt, v_mod, v_div, v_range, v_mul, ev_fn, ev_start, ev_seq, ev_nil, ev_nx, ev_rt, ev_bk, ev_ct, ev_ex, ev_ono, ev_onx, ev_ort, ev_oex, ev_set, ev_ret, ev_if, ev_expr, ev_raise, ev_c, ev_peek, ev_var, ev_mov, ev_op, ev_ix, ev_un, ev_isi, ev_callB, ev_call, ev_callF, ev_esn, ev_esc, ev_tup, ev_lst, ev_tof, ev_and, ev_or, ev_not, ev_yes, ev_eand, ev_eor, ev_eif, ev_chain, ev_sl, ev_pn, ev_ps, ev_lc, ev_asg, ev_gn, ev_gt, ev_gc, ev_gnil, ev_for, ev_while, ev_range, ev_iof, ev_ienum, ev_append, ev_tidx, ev_isc, ev_try, ev_add, ev_sub, re_bok, re_bex, re_bno, re_of, re_sok, re_sex, re_sno, List.map_cons, List.map_nil, List.length_cons, List.length_nil, List.replicate_succ, List.replicate_zero, List.cons_append, List.nil_append, List.getElem?_cons_zero, List.getElem?_cons_succ, List.getElem?_nil, List.set_cons_zero, List.set_cons_succ, List.set_nil, Nat.reduceAdd, Nat.reduceSub, Nat.reduceEqDiff, ↓reduceIte, Bool.not_true, Bool.not_false, Bool.false_eq_true, D.frz, D.frzs, eq_int, ne_int, eq_bl, ne_bl, decide_true, decide_false, Option.bind_some, Option.map_some, wipeE, v_isN, v_notN, non_int, non_str, non_non, true_or, or_true, D.clean, D.cleans, D.ownss, D.owns, Bool.or_false, Bool.false_or, Bool.and_true, Bool.true_and, v_add, v_sub, v_lt, v_le, v_gt, v_ge, v_neg, v_lenL, v_lenT, v_lts, nx, opS, opP, eq_str (x := Str.ofString "=") (y := Str.ofString ">") (b := false) (by decide +kernel) (by decide +kernel) (by decide +kernel), p_paired_eq hx hk nx nk, frz_w hx, frz_w hk, own_w hx, own_w hk, one_if]
    · simp (disch := first | decide | omega | assumption) only [sz_le, sz_lt, v_mod, v_div, v_range, v_mul, ev_fn, ev_start, ev_seq, ev_nil, ev_nx, ev_rt, ev_bk, ev_ct, ev_ex, ev_ono, ev_onx, ev_ort, ev_oex, ev_set, ev_ret, ev_if, ev_expr, ev_raise, ev_c, ev_peek, ev_var, ev_mov, ev_op, ev_ix, ev_un, ev_isi, ev_callB, ev_call, ev_callF, ev_esn, ev_esc, ev_tup, ev_lst, ev_tof, ev_and, ev_or, ev_not, ev_yes, ev_eand, ev_eor, ev_eif, ev_chain, ev_sl, ev_pn, ev_ps, ev_lc, ev_asg, ev_gn, ev_gt, ev_gc, ev_gnil, ev_for, ev_while, ev_range, ev_iof, ev_ienum, ev_append, ev_tidx, ev_isc, ev_try, ev_add, ev_sub, re_bok, re_bex, re_bno, re_of, re_sok, re_sex, re_sno, List.map_cons, List.map_nil, List.length_cons, List.length_nil, List.replicate_succ, List.replicate_zero, List.cons_append, List.nil_append, List.getElem?_cons_zero, List.getElem?_cons_succ, List.getElem?_nil, List.set_cons_zero, List.set_cons_succ, List.set_nil, Nat.reduceAdd, Nat.reduceSub, Nat.reduceEqDiff, ↓reduceIte, Bool.not_true, Bool.not_false, Bool.false_eq_true, D.frz, D.frzs, eq_int, ne_int, eq_bl, ne_bl, decide_true, decide_false, Option.bind_some, Option.map_some, wipeE, v_isN, v_notN, non_int, non_str, non_non, true_or, or_true, D.clean, D.cleans, D.ownss, D.owns, Bool.or_false, Bool.false_or, Bool.and_true, Bool.true_and, v_add, v_sub, v_lt, v_le, v_gt, v_ge, v_neg, v_lenL, v_lenT, v_lts, nx, opS, opP, eq_str (x := Str.ofString "<") (y := Str.ofString ">") (b := false) (by decide +kernel) (by decide +kernel) (by decide +kernel), p_paired_lt hx hk nx nk, frz_w hx, frz_w hk, own_w hx, own_w hk]
      by_cases e : x.isStr = k.isStr
      · simp (disch := first | decide | omega | assumption) only [sz_le, sz_lt, v_mod, v_div, v_range, v_mul, ev_fn, ev_start, ev_seq, ev_nil, ev_nx, ev_rt, ev_bk, ev_ct, ev_ex, ev_ono, ev_onx, ev_ort, ev_oex, ev_set, ev_ret, ev_if, ev_expr, ev_raise, ev_c, ev_peek, ev_var, ev_mov, ev_op, ev_ix, ev_un, ev_isi, ev_callB, ev_call, ev_callF, ev_esn, ev_esc, ev_tup, ev_lst, ev_tof, ev_and, ev_or, ev_not, ev_yes, ev_eand, ev_eor, ev_eif, ev_chain, ev_sl, ev_pn, ev_ps, ev_lc, ev_asg, ev_gn, ev_gt, ev_gc, ev_gnil, ev_for, ev_while, ev_range, ev_iof, ev_ienum, ev_append, ev_tidx, ev_isc, ev_try, ev_add, ev_sub, re_bok, re_bex, re_bno, re_of, re_sok, re_sex, re_sno, List.map_cons, List.map_nil, List.length_cons, List.length_nil, List.replicate_succ, List.replicate_zero, List.cons_append, List.nil_append, List.getElem?_cons_zero, List.getElem?_cons_succ, List.getElem?_nil, List.set_cons_zero, List.set_cons_succ, List.set_nil, Nat.reduceAdd, Nat.reduceSub, Nat.reduceEqDiff, ↓reduceIte, Bool.not_true, Bool.not_false, Bool.false_eq_true, D.frz, D.frzs, eq_int, ne_int, eq_bl, ne_bl, decide_true, decide_false, Option.bind_some, Option.map_some, wipeE, v_isN, v_notN, non_int, non_str, non_non, true_or, or_true, D.clean, D.cleans, D.ownss, D.owns, Bool.or_false, Bool.false_or, Bool.and_true, Bool.true_and, v_add, v_sub, v_lt, v_le, v_gt, v_ge, v_neg, v_lenL, v_lenT, v_lts, e, one_if]
      · simp (disch := first | decide | omega | assumption) only [sz_le, sz_lt, v_mod, v_div, v_range, v_mul, ev_fn, ev_start, ev_seq, ev_nil, ev_nx, ev_rt, ev_bk, ev_ct, ev_ex, ev_ono, ev_onx, ev_ort, ev_oex, ev_set, ev_ret, ev_if, ev_expr, ev_raise, ev_c, ev_peek, ev_var, ev_mov, ev_op, ev_ix, ev_un, ev_isi, ev_callB, ev_call, ev_callF, ev_esn, ev_esc, ev_tup, ev_lst, ev_tof, ev_and, ev_or, ev_not, ev_yes, ev_eand, ev_eor, ev_eif, ev_chain, ev_sl, ev_pn, ev_ps, ev_lc, ev_asg, ev_gn, ev_gt, ev_gc, ev_gnil, ev_for, ev_while, ev_range, ev_iof, ev_ienum, ev_append, ev_tidx, ev_isc, ev_try, ev_add, ev_sub, re_bok, re_bex, re_bno, re_of, re_sok, re_sex, re_sno, List.map_cons, List.map_nil, List.length_cons, List.length_nil, List.replicate_succ, List.replicate_zero, List.cons_append, List.nil_append, List.getElem?_cons_zero, List.getElem?_cons_succ, List.getElem?_nil, List.set_cons_zero, List.set_cons_succ, List.set_nil, Nat.reduceAdd, Nat.reduceSub, Nat.reduceEqDiff, ↓reduceIte, Bool.not_true, Bool.not_false, Bool.false_eq_true, D.frz, D.frzs, eq_int, ne_int, eq_bl, ne_bl, decide_true, decide_false, Option.bind_some, Option.map_some, wipeE, v_isN, v_notN, non_int, non_str, non_non, true_or, or_true, D.clean, D.cleans, D.ownss, D.owns, Bool.or_false, Bool.false_or, Bool.and_true, Bool.true_and, v_add, v_sub, v_lt, v_le, v_gt, v_ge, v_neg, v_lenL, v_lenT, v_lts, e, eq_tup_int fault_dat, less_kind e]
    · simp (disch := first | decide | omega | assumption) only [sz_le, sz_lt, v_mod, v_div, v_range, v_mul, ev_fn, ev_start, ev_seq, ev_nil, ev_nx, ev_rt, ev_bk, ev_ct, ev_ex, ev_ono, ev_onx, ev_ort, ev_oex, ev_set, ev_ret, ev_if, ev_expr, ev_raise, ev_c, ev_peek, ev_var, ev_mov, ev_op, ev_ix, ev_un, ev_isi, ev_callB, ev_call, ev_callF, ev_esn, ev_esc, ev_tup, ev_lst, ev_tof, ev_and, ev_or, ev_not, ev_yes, ev_eand, ev_eor, ev_eif, ev_chain, ev_sl, ev_pn, ev_ps, ev_lc, ev_asg, ev_gn, ev_gt, ev_gc, ev_gnil, ev_for, ev_while, ev_range, ev_iof, ev_ienum, ev_append, ev_tidx, ev_isc, ev_try, ev_add, ev_sub, re_bok, re_bex, re_bno, re_of, re_sok, re_sex, re_sno, List.map_cons, List.map_nil, List.length_cons, List.length_nil, List.replicate_succ, List.replicate_zero, List.cons_append, List.nil_append, List.getElem?_cons_zero, List.getElem?_cons_succ, List.getElem?_nil, List.set_cons_zero, List.set_cons_succ, List.set_nil, Nat.reduceAdd, Nat.reduceSub, Nat.reduceEqDiff, ↓reduceIte, Bool.not_true, Bool.not_false, Bool.false_eq_true, D.frz, D.frzs, eq_int, ne_int, eq_bl, ne_bl, decide_true, decide_false, Option.bind_some, Option.map_some, wipeE, v_isN, v_notN, non_int, non_str, non_non, true_or, or_true, D.clean, D.cleans, D.ownss, D.owns, Bool.or_false, Bool.false_or, Bool.and_true, Bool.true_and, v_add, v_sub, v_lt, v_le, v_gt, v_ge, v_neg, v_lenL, v_lenT, v_lts, nx, opS, opP, eq_str (x := Str.ofString ">") (y := Str.ofString ">") (b := true) (by decide +kernel) (by decide +kernel) (by decide +kernel), p_paired_lt hk hx nk nx, frz_w hx, frz_w hk, own_w hx, own_w hk]
      by_cases e : k.isStr = x.isStr
      · simp (disch := first | decide | omega | assumption) only [sz_le, sz_lt, v_mod, v_div, v_range, v_mul, ev_fn, ev_start, ev_seq, ev_nil, ev_nx, ev_rt, ev_bk, ev_ct, ev_ex, ev_ono, ev_onx, ev_ort, ev_oex, ev_set, ev_ret, ev_if, ev_expr, ev_raise, ev_c, ev_peek, ev_var, ev_mov, ev_op, ev_ix, ev_un, ev_isi, ev_callB, ev_call, ev_callF, ev_esn, ev_esc, ev_tup, ev_lst, ev_tof, ev_and, ev_or, ev_not, ev_yes, ev_eand, ev_eor, ev_eif, ev_chain, ev_sl, ev_pn, ev_ps, ev_lc, ev_asg, ev_gn, ev_gt, ev_gc, ev_gnil, ev_for, ev_while, ev_range, ev_iof, ev_ienum, ev_append, ev_tidx, ev_isc, ev_try, ev_add, ev_sub, re_bok, re_bex, re_bno, re_of, re_sok, re_sex, re_sno, List.map_cons, List.map_nil, List.length_cons, List.length_nil, List.replicate_succ, List.replicate_zero, List.cons_append, List.nil_append, List.getElem?_cons_zero, List.getElem?_cons_succ, List.getElem?_nil, List.set_cons_zero, List.set_cons_succ, List.set_nil, Nat.reduceAdd, Nat.reduceSub, Nat.reduceEqDiff, ↓reduceIte, Bool.not_true, Bool.not_false, Bool.false_eq_true, D.frz, D.frzs, eq_int, ne_int, eq_bl, ne_bl, decide_true, decide_false, Option.bind_some, Option.map_some, wipeE, v_isN, v_notN, non_int, non_str, non_non, true_or, or_true, D.clean, D.cleans, D.ownss, D.owns, Bool.or_false, Bool.false_or, Bool.and_true, Bool.true_and, v_add, v_sub, v_lt, v_le, v_gt, v_ge, v_neg, v_lenL, v_lenT, v_lts, e, one_if]
      · simp (disch := first | decide | omega | assumption) only [sz_le, sz_lt, v_mod, v_div, v_range, v_mul, ev_fn, ev_start, ev_seq, ev_nil, ev_nx, ev_rt, ev_bk, ev_ct, ev_ex, ev_ono, ev_onx, ev_ort, ev_oex, ev_set, ev_ret, ev_if, ev_expr, ev_raise, ev_c, ev_peek, ev_var, ev_mov, ev_op, ev_ix, ev_un, ev_isi, ev_callB, ev_call, ev_callF, ev_esn, ev_esc, ev_tup, ev_lst, ev_tof, ev_and, ev_or, ev_not, ev_yes, ev_eand, ev_eor, ev_eif, ev_chain, ev_sl, ev_pn, ev_ps, ev_lc, ev_asg, ev_gn, ev_gt, ev_gc, ev_gnil, ev_for, ev_while, ev_range, ev_iof, ev_ienum, ev_append, ev_tidx, ev_isc, ev_try, ev_add, ev_sub, re_bok, re_bex, re_bno, re_of, re_sok, re_sex, re_sno, List.map_cons, List.map_nil, List.length_cons, List.length_nil, List.replicate_succ, List.replicate_zero, List.cons_append, List.nil_append, List.getElem?_cons_zero, List.getElem?_cons_succ, List.getElem?_nil, List.set_cons_zero, List.set_cons_succ, List.set_nil, Nat.reduceAdd, Nat.reduceSub, Nat.reduceEqDiff, ↓reduceIte, Bool.not_true, Bool.not_false, Bool.false_eq_true, D.frz, D.frzs, eq_int, ne_int, eq_bl, ne_bl, decide_true, decide_false, Option.bind_some, Option.map_some, wipeE, v_isN, v_notN, non_int, non_str, non_non, true_or, or_true, D.clean, D.cleans, D.ownss, D.owns, Bool.or_false, Bool.false_or, Bool.and_true, Bool.true_and, v_add, v_sub, v_lt, v_le, v_gt, v_ge, v_neg, v_lenL, v_lenT, v_lts, e, eq_tup_int fault_dat, less_kind e]
end
end Gk72

namespace Gk72
open PySem PySem.Spec OL
section
variable {K : PySem.W.Frag} {ca : Nat → Addr}
def colD (rs : List (List D)) (j : Nat) : List D := rs.map fun r => r.getD j .non
theorem col_w {most : Nat} {hs : List Str} {rs : List (List D)} (t : Tab most hs rs) {j : Nat} (hj : j < hs.length) : ∀ d ∈ colD rs j, isW d := fun d hd => by
  obtain ⟨r, hr, rfl⟩ := List.mem_map.mp hd
  have hj' : j < r.length := by rw [t.len r hr]; exact hj
  have g : r[j]? = some (r.getD j .non) := by rw [List.getD_eq_getElem?_getD, List.getElem?_eq_getElem hj']; rfl
  exact t.w r hr _ (List.mem_of_getElem? g)
theorem col_len (rs : List (List D)) (j : Nat) : (colD rs j).length = rs.length := List.length_map ..
theorem opS_ok (o : Nat) : PyData.strOk (opS o) = true := by
  unfold opS
  split <;> decide +kernel
theorem p_fitting {most : Nat} {hs : List Str} {rs : List (List D)} (t : Tab most hs rs) (hm : most < 1000) (h : Str) (hk : PyData.strOk h = true) (o : Nat) (ho : o < 3) {k : D} (wk : isW k) (nk : k.isNon = false) :
    s_fitting K ca [tabD hs rs, .str h, .str (opS o), k] = match idxS hs h with | some j => .ok (.lst true (idxW (fun w => !w.isNon && opP o w k) 0 (colD rs j))) | none => .ex 1 := by
  unfold s_fitting r_fitting
  simp (disch := first | decide | omega | assumption) only [sz_le, sz_lt, v_mod, v_div, v_range, v_mul, ev_fn, ev_start, ev_seq, ev_nil, ev_nx, ev_rt, ev_bk, ev_ct, ev_ex, ev_ono, ev_onx, ev_ort, ev_oex, ev_set, ev_ret, ev_if, ev_expr, ev_raise, ev_c, ev_peek, ev_var, ev_mov, ev_op, ev_ix, ev_un, ev_isi, ev_callB, ev_call, ev_callF, ev_esn, ev_esc, ev_tup, ev_lst, ev_tof, ev_and, ev_or, ev_not, ev_yes, ev_eand, ev_eor, ev_eif, ev_chain, ev_sl, ev_pn, ev_ps, ev_lc, ev_asg, ev_gn, ev_gt, ev_gc, ev_gnil, ev_for, ev_while, ev_range, ev_iof, ev_ienum, ev_append, ev_tidx, ev_isc, ev_try, ev_add, ev_sub, re_bok, re_bex, re_bno, re_of, re_sok, re_sex, re_sno, List.map_cons, List.map_nil, List.length_cons, List.length_nil, List.replicate_succ, List.replicate_zero, List.cons_append, List.nil_append, List.getElem?_cons_zero, List.getElem?_cons_succ, List.getElem?_nil, List.set_cons_zero, List.set_cons_succ, List.set_nil, Nat.reduceAdd, Nat.reduceSub, Nat.reduceEqDiff, ↓reduceIte, Bool.not_true, Bool.not_false, Bool.false_eq_true, D.frz, D.frzs, eq_int, ne_int, eq_bl, ne_bl, decide_true, decide_false, Option.bind_some, Option.map_some, wipeE, v_isN, v_notN, non_int, non_str, non_non, true_or, or_true, D.clean, D.cleans, D.ownss, D.owns, Bool.or_false, Bool.false_or, Bool.and_true, Bool.true_and, v_add, v_sub, v_lt, v_le, v_gt, v_ge, v_neg, v_lenL, v_lenT, v_lts, frz_tab t, p_column_of t hm h hk]
  cases q : idxS hs h with
  | none => simp (disch := first | decide | omega | assumption) only [sz_le, sz_lt, v_mod, v_div, v_range, v_mul, ev_fn, ev_start, ev_seq, ev_nil, ev_nx, ev_rt, ev_bk, ev_ct, ev_ex, ev_ono, ev_onx, ev_ort, ev_oex, ev_set, ev_ret, ev_if, ev_expr, ev_raise, ev_c, ev_peek, ev_var, ev_mov, ev_op, ev_ix, ev_un, ev_isi, ev_callB, ev_call, ev_callF, ev_esn, ev_esc, ev_tup, ev_lst, ev_tof, ev_and, ev_or, ev_not, ev_yes, ev_eand, ev_eor, ev_eif, ev_chain, ev_sl, ev_pn, ev_ps, ev_lc, ev_asg, ev_gn, ev_gt, ev_gc, ev_gnil, ev_for, ev_while, ev_range, ev_iof, ev_ienum, ev_append, ev_tidx, ev_isc, ev_try, ev_add, ev_sub, re_bok, re_bex, re_bno, re_of, re_sok, re_sex, re_sno, List.map_cons, List.map_nil, List.length_cons, List.length_nil, List.replicate_succ, List.replicate_zero, List.cons_append, List.nil_append, List.getElem?_cons_zero, List.getElem?_cons_succ, List.getElem?_nil, List.set_cons_zero, List.set_cons_succ, List.set_nil, Nat.reduceAdd, Nat.reduceSub, Nat.reduceEqDiff, ↓reduceIte, Bool.not_true, Bool.not_false, Bool.false_eq_true, D.frz, D.frzs, eq_int, ne_int, eq_bl, ne_bl, decide_true, decide_false, Option.bind_some, Option.map_some, wipeE, v_isN, v_notN, non_int, non_str, non_non, true_or, or_true, D.clean, D.cleans, D.ownss, D.owns, Bool.or_false, Bool.false_or, Bool.and_true, Bool.true_and, v_add, v_sub, v_lt, v_le, v_gt, v_ge, v_neg, v_lenL, v_lenT, v_lts, ]
  | some j =>
    have hj : j < hs.length := (List.getElem?_eq_some_iff.mp (idxS_at q).1).1
    have cw := col_w t hj
    have cw' : ∀ d ∈ rs.map (fun r => r.getD j .non), isW d := cw
    simp (disch := first | decide | omega | assumption) only [sz_le, sz_lt, v_mod, v_div, v_range, v_mul, ev_fn, ev_start, ev_seq, ev_nil, ev_nx, ev_rt, ev_bk, ev_ct, ev_ex, ev_ono, ev_onx, ev_ort, ev_oex, ev_set, ev_ret, ev_if, ev_expr, ev_raise, ev_c, ev_peek, ev_var, ev_mov, ev_op, ev_ix, ev_un, ev_isi, ev_callB, ev_call, ev_callF, ev_esn, ev_esc, ev_tup, ev_lst, ev_tof, ev_and, ev_or, ev_not, ev_yes, ev_eand, ev_eor, ev_eif, ev_chain, ev_sl, ev_pn, ev_ps, ev_lc, ev_asg, ev_gn, ev_gt, ev_gc, ev_gnil, ev_for, ev_while, ev_range, ev_iof, ev_ienum, ev_append, ev_tidx, ev_isc, ev_try, ev_add, ev_sub, re_bok, re_bex, re_bno, re_of, re_sok, re_sex, re_sno, List.map_cons, List.map_nil, List.length_cons, List.length_nil, List.replicate_succ, List.replicate_zero, List.cons_append, List.nil_append, List.getElem?_cons_zero, List.getElem?_cons_succ, List.getElem?_nil, List.set_cons_zero, List.set_cons_succ, List.set_nil, Nat.reduceAdd, Nat.reduceSub, Nat.reduceEqDiff, ↓reduceIte, Bool.not_true, Bool.not_false, Bool.false_eq_true, D.frz, D.frzs, eq_int, ne_int, eq_bl, ne_bl, decide_true, decide_false, Option.bind_some, Option.map_some, wipeE, v_isN, v_notN, non_int, non_str, non_non, true_or, or_true, D.clean, D.cleans, D.ownss, D.owns, Bool.or_false, Bool.false_or, Bool.and_true, Bool.true_and, v_add, v_sub, v_lt, v_le, v_gt, v_ge, v_neg, v_lenL, v_lenT, v_lts, owns_ws cw', frzs_ws cw', own_tab t, own_w wk]
    rw [lcL_filter (y := fstD) (p := fun d => !(sndD d).isNon && opP o (sndD d) k) (fun d hd => by
      obtain ⟨i, w, rfl, hw⟩ := enumD_mem hd
      have ww := cw _ hw
      have g : s_fits K ca [w, .str (opS o), k] = .ok (.bl (!w.isNon && opP o w k)) := p_fits o ho ww wk nk
      refine ⟨[some (tabD hs rs), some (.str h), some (.str (opS o)), some k, some (.int (i : Nat)), some w], [some (tabD hs rs), some (.str h), some (.str (opS o)), some k, some (.int (i : Nat)), some w], ?_, ?_, fun _ => rfl, fun _ => ⟨[some (tabD hs rs), some (.str h), some (.str (opS o)), some k, some (.int (i : Nat)), some w], ?_, rfl⟩⟩
      · simp (disch := first | decide | omega | assumption) only [sz_le, sz_lt, v_mod, v_div, v_range, v_mul, ev_fn, ev_start, ev_seq, ev_nil, ev_nx, ev_rt, ev_bk, ev_ct, ev_ex, ev_ono, ev_onx, ev_ort, ev_oex, ev_set, ev_ret, ev_if, ev_expr, ev_raise, ev_c, ev_peek, ev_var, ev_mov, ev_op, ev_ix, ev_un, ev_isi, ev_callB, ev_call, ev_callF, ev_esn, ev_esc, ev_tup, ev_lst, ev_tof, ev_and, ev_or, ev_not, ev_yes, ev_eand, ev_eor, ev_eif, ev_chain, ev_sl, ev_pn, ev_ps, ev_lc, ev_asg, ev_gn, ev_gt, ev_gc, ev_gnil, ev_for, ev_while, ev_range, ev_iof, ev_ienum, ev_append, ev_tidx, ev_isc, ev_try, ev_add, ev_sub, re_bok, re_bex, re_bno, re_of, re_sok, re_sex, re_sno, List.map_cons, List.map_nil, List.length_cons, List.length_nil, List.replicate_succ, List.replicate_zero, List.cons_append, List.nil_append, List.getElem?_cons_zero, List.getElem?_cons_succ, List.getElem?_nil, List.set_cons_zero, List.set_cons_succ, List.set_nil, Nat.reduceAdd, Nat.reduceSub, Nat.reduceEqDiff, ↓reduceIte, Bool.not_true, Bool.not_false, Bool.false_eq_true, D.frz, D.frzs, eq_int, ne_int, eq_bl, ne_bl, decide_true, decide_false, Option.bind_some, Option.map_some, wipeE, v_isN, v_notN, non_int, non_str, non_non, true_or, or_true, D.clean, D.cleans, D.ownss, D.owns, Bool.or_false, Bool.false_or, Bool.and_true, Bool.true_and, v_add, v_sub, v_lt, v_le, v_gt, v_ge, v_neg, v_lenL, v_lenT, v_lts, own_w ww]
      · simp (disch := first | decide | omega | assumption) only [sz_le, sz_lt, v_mod, v_div, v_range, v_mul, ev_fn, ev_start, ev_seq, ev_nil, ev_nx, ev_rt, ev_bk, ev_ct, ev_ex, ev_ono, ev_onx, ev_ort, ev_oex, ev_set, ev_ret, ev_if, ev_expr, ev_raise, ev_c, ev_peek, ev_var, ev_mov, ev_op, ev_ix, ev_un, ev_isi, ev_callB, ev_call, ev_callF, ev_esn, ev_esc, ev_tup, ev_lst, ev_tof, ev_and, ev_or, ev_not, ev_yes, ev_eand, ev_eor, ev_eif, ev_chain, ev_sl, ev_pn, ev_ps, ev_lc, ev_asg, ev_gn, ev_gt, ev_gc, ev_gnil, ev_for, ev_while, ev_range, ev_iof, ev_ienum, ev_append, ev_tidx, ev_isc, ev_try, ev_add, ev_sub, re_bok, re_bex, re_bno, re_of, re_sok, re_sex, re_sno, List.map_cons, List.map_nil, List.length_cons, List.length_nil, List.replicate_succ, List.replicate_zero, List.cons_append, List.nil_append, List.getElem?_cons_zero, List.getElem?_cons_succ, List.getElem?_nil, List.set_cons_zero, List.set_cons_succ, List.set_nil, Nat.reduceAdd, Nat.reduceSub, Nat.reduceEqDiff, ↓reduceIte, Bool.not_true, Bool.not_false, Bool.false_eq_true, D.frz, D.frzs, eq_int, ne_int, eq_bl, ne_bl, decide_true, decide_false, Option.bind_some, Option.map_some, wipeE, v_isN, v_notN, non_int, non_str, non_non, true_or, or_true, D.clean, D.cleans, D.ownss, D.owns, Bool.or_false, Bool.false_or, Bool.and_true, Bool.true_and, v_add, v_sub, v_lt, v_le, v_gt, v_ge, v_neg, v_lenL, v_lenT, v_lts, frz_w ww, frz_w wk, g]
        rfl
      · simp (disch := first | decide | omega | assumption) only [sz_le, sz_lt, v_mod, v_div, v_range, v_mul, ev_fn, ev_start, ev_seq, ev_nil, ev_nx, ev_rt, ev_bk, ev_ct, ev_ex, ev_ono, ev_onx, ev_ort, ev_oex, ev_set, ev_ret, ev_if, ev_expr, ev_raise, ev_c, ev_peek, ev_var, ev_mov, ev_op, ev_ix, ev_un, ev_isi, ev_callB, ev_call, ev_callF, ev_esn, ev_esc, ev_tup, ev_lst, ev_tof, ev_and, ev_or, ev_not, ev_yes, ev_eand, ev_eor, ev_eif, ev_chain, ev_sl, ev_pn, ev_ps, ev_lc, ev_asg, ev_gn, ev_gt, ev_gc, ev_gnil, ev_for, ev_while, ev_range, ev_iof, ev_ienum, ev_append, ev_tidx, ev_isc, ev_try, ev_add, ev_sub, re_bok, re_bex, re_bno, re_of, re_sok, re_sex, re_sno, List.map_cons, List.map_nil, List.length_cons, List.length_nil, List.replicate_succ, List.replicate_zero, List.cons_append, List.nil_append, List.getElem?_cons_zero, List.getElem?_cons_succ, List.getElem?_nil, List.set_cons_zero, List.set_cons_succ, List.set_nil, Nat.reduceAdd, Nat.reduceSub, Nat.reduceEqDiff, ↓reduceIte, Bool.not_true, Bool.not_false, Bool.false_eq_true, D.frz, D.frzs, eq_int, ne_int, eq_bl, ne_bl, decide_true, decide_false, Option.bind_some, Option.map_some, wipeE, v_isN, v_notN, non_int, non_str, non_non, true_or, or_true, D.clean, D.cleans, D.ownss, D.owns, Bool.or_false, Bool.false_or, Bool.and_true, Bool.true_and, v_add, v_sub, v_lt, v_le, v_gt, v_ge, v_neg, v_lenL, v_lenT, v_lts, ]
        rfl) (by rw [enumD_len, List.length_map]; exact sz_le (by have := t.few; simp only [List.length_nil]; omega))]
    simp (disch := first | decide | omega | assumption) only [sz_le, sz_lt, v_mod, v_div, v_range, v_mul, ev_fn, ev_start, ev_seq, ev_nil, ev_nx, ev_rt, ev_bk, ev_ct, ev_ex, ev_ono, ev_onx, ev_ort, ev_oex, ev_set, ev_ret, ev_if, ev_expr, ev_raise, ev_c, ev_peek, ev_var, ev_mov, ev_op, ev_ix, ev_un, ev_isi, ev_callB, ev_call, ev_callF, ev_esn, ev_esc, ev_tup, ev_lst, ev_tof, ev_and, ev_or, ev_not, ev_yes, ev_eand, ev_eor, ev_eif, ev_chain, ev_sl, ev_pn, ev_ps, ev_lc, ev_asg, ev_gn, ev_gt, ev_gc, ev_gnil, ev_for, ev_while, ev_range, ev_iof, ev_ienum, ev_append, ev_tidx, ev_isc, ev_try, ev_add, ev_sub, re_bok, re_bex, re_bno, re_of, re_sok, re_sex, re_sno, List.map_cons, List.map_nil, List.length_cons, List.length_nil, List.replicate_succ, List.replicate_zero, List.cons_append, List.nil_append, List.getElem?_cons_zero, List.getElem?_cons_succ, List.getElem?_nil, List.set_cons_zero, List.set_cons_succ, List.set_nil, Nat.reduceAdd, Nat.reduceSub, Nat.reduceEqDiff, ↓reduceIte, Bool.not_true, Bool.not_false, Bool.false_eq_true, D.frz, D.frzs, eq_int, ne_int, eq_bl, ne_bl, decide_true, decide_false, Option.bind_some, Option.map_some, wipeE, v_isN, v_notN, non_int, non_str, non_non, true_or, or_true, D.clean, D.cleans, D.ownss, D.owns, Bool.or_false, Bool.false_or, Bool.and_true, Bool.true_and, v_add, v_sub, v_lt, v_le, v_gt, v_ge, v_neg, v_lenL, v_lenT, v_lts, idxW_filter (fun w => !w.isNon && opP o w k) 0 (rs.map fun r => r.getD j .non)]
    rfl
theorem p_less {x y : D} (hx : isW x) (hy : isW y) (nx : x.isNon = false) (ny : y.isNon = false) : s__law_less K ca [x, y] = .ok (.bl (lessW x y)) := by
  rcases w_cases hx nx with ⟨i, rfl⟩ | ⟨s, rfl, hs⟩ <;> rcases w_cases hy ny with ⟨j, rfl⟩ | ⟨u, rfl, hu⟩ <;> unfold s__law_less r__law_less <;>
    simp (disch := first | decide | omega | assumption) only [sz_le, sz_lt, v_mod, v_div, v_range, v_mul, ev_fn, ev_start, ev_seq, ev_nil, ev_nx, ev_rt, ev_bk, ev_ct, ev_ex, ev_ono, ev_onx, ev_ort, ev_oex, ev_set, ev_ret, ev_if, ev_expr, ev_raise, ev_c, ev_peek, ev_var, ev_mov, ev_op, ev_ix, ev_un, ev_isi, ev_callB, ev_call, ev_callF, ev_esn, ev_esc, ev_tup, ev_lst, ev_tof, ev_and, ev_or, ev_not, ev_yes, ev_eand, ev_eor, ev_eif, ev_chain, ev_sl, ev_pn, ev_ps, ev_lc, ev_asg, ev_gn, ev_gt, ev_gc, ev_gnil, ev_for, ev_while, ev_range, ev_iof, ev_ienum, ev_append, ev_tidx, ev_isc, ev_try, ev_add, ev_sub, re_bok, re_bex, re_bno, re_of, re_sok, re_sex, re_sno, List.map_cons, List.map_nil, List.length_cons, List.length_nil, List.replicate_succ, List.replicate_zero, List.cons_append, List.nil_append, List.getElem?_cons_zero, List.getElem?_cons_succ, List.getElem?_nil, List.set_cons_zero, List.set_cons_succ, List.set_nil, Nat.reduceAdd, Nat.reduceSub, Nat.reduceEqDiff, ↓reduceIte, Bool.not_true, Bool.not_false, Bool.false_eq_true, D.frz, D.frzs, eq_int, ne_int, eq_bl, ne_bl, decide_true, decide_false, Option.bind_some, Option.map_some, wipeE, v_isN, v_notN, non_int, non_str, non_non, true_or, or_true, D.clean, D.cleans, D.ownss, D.owns, Bool.or_false, Bool.false_or, Bool.and_true, Bool.true_and, v_add, v_sub, v_lt, v_le, v_gt, v_ge, v_neg, v_lenL, v_lenT, v_lts, v_isStr (show (D.int _).isExn = false from rfl), v_isStr (show (D.str _).isExn = false from rfl), isStr_int, isStr_str, reduceCtorEq] <;> rfl
theorem p_due {col : List D} (cw : ∀ d ∈ col, isW d) (hl : col.length < 1000) (o : Nat) (ho : o < 3) {k : D} (wk : isW k) (nk : k.isNon = false) :
    s__law_due K ca [.lst false col, .str (opS o), k] = .ok (.lst true (idxW (fun w => !w.isNon && opP o w k) 0 col)) := by
  unfold s__law_due r__law_due
  simp (disch := first | decide | omega | assumption) only [sz_le, sz_lt, v_mod, v_div, v_range, v_mul, ev_fn, ev_start, ev_seq, ev_nil, ev_nx, ev_rt, ev_bk, ev_ct, ev_ex, ev_ono, ev_onx, ev_ort, ev_oex, ev_set, ev_ret, ev_if, ev_expr, ev_raise, ev_c, ev_peek, ev_var, ev_mov, ev_op, ev_ix, ev_un, ev_isi, ev_callB, ev_call, ev_callF, ev_esn, ev_esc, ev_tup, ev_lst, ev_tof, ev_and, ev_or, ev_not, ev_yes, ev_eand, ev_eor, ev_eif, ev_chain, ev_sl, ev_pn, ev_ps, ev_lc, ev_asg, ev_gn, ev_gt, ev_gc, ev_gnil, ev_for, ev_while, ev_range, ev_iof, ev_ienum, ev_append, ev_tidx, ev_isc, ev_try, ev_add, ev_sub, re_bok, re_bex, re_bno, re_of, re_sok, re_sex, re_sno, List.map_cons, List.map_nil, List.length_cons, List.length_nil, List.replicate_succ, List.replicate_zero, List.cons_append, List.nil_append, List.getElem?_cons_zero, List.getElem?_cons_succ, List.getElem?_nil, List.set_cons_zero, List.set_cons_succ, List.set_nil, Nat.reduceAdd, Nat.reduceSub, Nat.reduceEqDiff, ↓reduceIte, Bool.not_true, Bool.not_false, Bool.false_eq_true, D.frz, D.frzs, eq_int, ne_int, eq_bl, ne_bl, decide_true, decide_false, Option.bind_some, Option.map_some, wipeE, v_isN, v_notN, non_int, non_str, non_non, true_or, or_true, D.clean, D.cleans, D.ownss, D.owns, Bool.or_false, Bool.false_or, Bool.and_true, Bool.true_and, v_add, v_sub, v_lt, v_le, v_gt, v_ge, v_neg, v_lenL, v_lenT, v_lts, rangeD_nats, natsD_F]
  generalize hT : idxW (fun w => !w.isNon && opP o w k) 0 col = T
  have hT2 : T.length ≤ col.length := by rw [← hT]; exact idxW_len _ _ _
  obtain ⟨ρ', h1, h2⟩ := forL_run (g := g_name 4) (b := s_seq (s_set 5 (e_ix (e_peek 0) (e_peek 4)))
      (s_if (t_of (e_op gNotN (e_peek 5) (e_c .non))) (s_if (t_or (t_and (t_of (e_op gEq (e_peek 1) (e_c (.str "=")))) (t_of (e_op gEq (e_peek 5) (e_peek 2)))) (t_or (t_and (t_of (e_op gEq (e_peek 1) (e_c (.str "<")))) (t_of (e_call (s__law_less K ca) (es_cons (e_peek 5) (es_cons (e_peek 2) (es_nil)))))) (t_and (t_of (e_op gEq (e_peek 1) (e_c (.str ">")))) (t_of (e_call (s__law_less K ca) (es_cons (e_peek 2) (es_cons (e_peek 5) (es_nil)))))))) (s_append 3 (e_var 4)) (s_nil)) (s_nil)))
    (ds := natsF 0 col.length) (ρ := [some (.lst false col), some (.str (opS o)), some k, some (.lst true []), none, none])
    (fun ds ρ => ∃ acc o4 o5 pre post, ds = natsF pre.length post.length ∧ col = pre ++ post ∧ ρ = [some (.lst false col), some (.str (opS o)), some k, some (.lst true acc), o4, o5] ∧ acc ++ idxW (fun w => !w.isNon && opP o w k) pre.length post = T)
    (fun d ds ρ ⟨acc, o4, o5, pre, post, e1, e2, e3, e4⟩ => by
      cases post with
      | nil => cases e1
      | cons w post =>
        rw [List.length_cons] at e1
        unfold natsF at e1
        injection e1 with e5 e6
        subst e5 e6 e3
        have ww : isW w := cw w (by rw [e2]; exact List.mem_append_right _ List.mem_cons_self)
        have hget : col[pre.length]? = some w := by rw [e2, List.getElem?_append_right (Nat.le_refl _), Nat.sub_self]; rfl
        have hacc : acc.length < sizeLine := sz_lt (by have := congrArg List.length e4; rw [List.length_append] at this; omega)
        have e2' : col = (pre ++ [w]) ++ post := by rw [e2, List.append_assoc]; rfl
        have pl : (pre ++ [w]).length = pre.length + 1 := by rw [List.length_append]; rfl
        have step : (fun w => !w.isNon && opP o w k) w = true → acc ++ [.int (pre.length : Nat)] ++ idxW (fun w => !w.isNon && opP o w k) (pre.length + 1) post = T := fun h => by
          rw [← e4]
          conv => rhs; unfold idxW
          rw [if_pos h, List.append_assoc]; rfl
        have step' : ¬ (fun w => !w.isNon && opP o w k) w = true → acc ++ idxW (fun w => !w.isNon && opP o w k) (pre.length + 1) post = T := fun h => by
          rw [← e4]
          conv => rhs; unfold idxW
          rw [if_neg h]
        refine ⟨[some (.lst false col), some (.str (opS o)), some k, some (.lst true acc), some (.int (pre.length : Nat)), o5],
          [some (.lst false col), some (.str (opS o)), some k, some (.lst true (if (fun w => !w.isNon && opP o w k) w = true then acc ++ [.int (pre.length : Nat)] else acc)), some (.int (pre.length : Nat)), some w], by simp (disch := first | decide | omega | assumption) only [sz_le, sz_lt, v_mod, v_div, v_range, v_mul, ev_fn, ev_start, ev_seq, ev_nil, ev_nx, ev_rt, ev_bk, ev_ct, ev_ex, ev_ono, ev_onx, ev_ort, ev_oex, ev_set, ev_ret, ev_if, ev_expr, ev_raise, ev_c, ev_peek, ev_var, ev_mov, ev_op, ev_ix, ev_un, ev_isi, ev_callB, ev_call, ev_callF, ev_esn, ev_esc, ev_tup, ev_lst, ev_tof, ev_and, ev_or, ev_not, ev_yes, ev_eand, ev_eor, ev_eif, ev_chain, ev_sl, ev_pn, ev_ps, ev_lc, ev_asg, ev_gn, ev_gt, ev_gc, ev_gnil, ev_for, ev_while, ev_range, ev_iof, ev_ienum, ev_append, ev_tidx, ev_isc, ev_try, ev_add, ev_sub, re_bok, re_bex, re_bno, re_of, re_sok, re_sex, re_sno, List.map_cons, List.map_nil, List.length_cons, List.length_nil, List.replicate_succ, List.replicate_zero, List.cons_append, List.nil_append, List.getElem?_cons_zero, List.getElem?_cons_succ, List.getElem?_nil, List.set_cons_zero, List.set_cons_succ, List.set_nil, Nat.reduceAdd, Nat.reduceSub, Nat.reduceEqDiff, ↓reduceIte, Bool.not_true, Bool.not_false, Bool.false_eq_true, D.frz, D.frzs, eq_int, ne_int, eq_bl, ne_bl, decide_true, decide_false, Option.bind_some, Option.map_some, wipeE, v_isN, v_notN, non_int, non_str, non_non, true_or, or_true, D.clean, D.cleans, D.ownss, D.owns, Bool.or_false, Bool.false_or, Bool.and_true, Bool.true_and, v_add, v_sub, v_lt, v_le, v_gt, v_ge, v_neg, v_lenL, v_lenT, v_lts, ], .inl ?_,
          _, _, _, pre ++ [w], post, by rw [pl], e2', rfl, ?_⟩
        · cases nw : w.isNon with
          | true => simp (disch := first | decide | omega | assumption) only [sz_le, sz_lt, v_mod, v_div, v_range, v_mul, ev_fn, ev_start, ev_seq, ev_nil, ev_nx, ev_rt, ev_bk, ev_ct, ev_ex, ev_ono, ev_onx, ev_ort, ev_oex, ev_set, ev_ret, ev_if, ev_expr, ev_raise, ev_c, ev_peek, ev_var, ev_mov, ev_op, ev_ix, ev_un, ev_isi, ev_callB, ev_call, ev_callF, ev_esn, ev_esc, ev_tup, ev_lst, ev_tof, ev_and, ev_or, ev_not, ev_yes, ev_eand, ev_eor, ev_eif, ev_chain, ev_sl, ev_pn, ev_ps, ev_lc, ev_asg, ev_gn, ev_gt, ev_gc, ev_gnil, ev_for, ev_while, ev_range, ev_iof, ev_ienum, ev_append, ev_tidx, ev_isc, ev_try, ev_add, ev_sub, re_bok, re_bex, re_bno, re_of, re_sok, re_sex, re_sno, List.map_cons, List.map_nil, List.length_cons, List.length_nil, List.replicate_succ, List.replicate_zero, List.cons_append, List.nil_append, List.getElem?_cons_zero, List.getElem?_cons_succ, List.getElem?_nil, List.set_cons_zero, List.set_cons_succ, List.set_nil, Nat.reduceAdd, Nat.reduceSub, Nat.reduceEqDiff, ↓reduceIte, Bool.not_true, Bool.not_false, Bool.false_eq_true, D.frz, D.frzs, eq_int, ne_int, eq_bl, ne_bl, decide_true, decide_false, Option.bind_some, Option.map_some, wipeE, v_isN, v_notN, non_int, non_str, non_non, true_or, or_true, D.clean, D.cleans, D.ownss, D.owns, Bool.or_false, Bool.false_or, Bool.and_true, Bool.true_and, v_add, v_sub, v_lt, v_le, v_gt, v_ge, v_neg, v_lenL, v_lenT, v_lts, v_ixL hget (own_w ww), nw, Bool.false_and]
          | false =>
            rcases (show o = 0 ∨ o = 1 ∨ o = 2 by omega) with rfl | rfl | rfl
            · simp (disch := first | decide | omega | assumption) only [sz_le, sz_lt, v_mod, v_div, v_range, v_mul, ev_fn, ev_start, ev_seq, ev_nil, ev_nx, ev_rt, ev_bk, ev_ct, ev_ex, ev_ono, ev_onx, ev_ort, ev_oex, ev_set, ev_ret, ev_if, ev_expr, ev_raise, ev_c, ev_peek, ev_var, ev_mov, ev_op, ev_ix, ev_un, ev_isi, ev_callB, ev_call, ev_callF, ev_esn, ev_esc, ev_tup, ev_lst, ev_tof, ev_and, ev_or, ev_not, ev_yes, ev_eand, ev_eor, ev_eif, ev_chain, ev_sl, ev_pn, ev_ps, ev_lc, ev_asg, ev_gn, ev_gt, ev_gc, ev_gnil, ev_for, ev_while, ev_range, ev_iof, ev_ienum, ev_append, ev_tidx, ev_isc, ev_try, ev_add, ev_sub, re_bok, re_bex, re_bno, re_of, re_sok, re_sex, re_sno, List.map_cons, List.map_nil, List.length_cons, List.length_nil, List.replicate_succ, List.replicate_zero, List.cons_append, List.nil_append, List.getElem?_cons_zero, List.getElem?_cons_succ, List.getElem?_nil, List.set_cons_zero, List.set_cons_succ, List.set_nil, Nat.reduceAdd, Nat.reduceSub, Nat.reduceEqDiff, ↓reduceIte, Bool.not_true, Bool.not_false, Bool.false_eq_true, D.frz, D.frzs, eq_int, ne_int, eq_bl, ne_bl, decide_true, decide_false, Option.bind_some, Option.map_some, wipeE, v_isN, v_notN, non_int, non_str, non_non, true_or, or_true, D.clean, D.cleans, D.ownss, D.owns, Bool.or_false, Bool.false_or, Bool.and_true, Bool.true_and, v_add, v_sub, v_lt, v_le, v_gt, v_ge, v_neg, v_lenL, v_lenT, v_lts, v_ixL hget (own_w ww), nw, opS, opP, eq_str (x := Str.ofString "=") (y := Str.ofString "=") (b := true) (by decide +kernel) (by decide +kernel) (by decide +kernel), eq_str (x := Str.ofString "=") (y := Str.ofString "<") (b := false) (by decide +kernel) (by decide +kernel) (by decide +kernel), eq_str (x := Str.ofString "=") (y := Str.ofString ">") (b := false) (by decide +kernel) (by decide +kernel) (by decide +kernel), eq_w ww wk, ownL]
              cases weq w k <;> simp (disch := first | decide | omega | assumption) only [sz_le, sz_lt, v_mod, v_div, v_range, v_mul, ev_fn, ev_start, ev_seq, ev_nil, ev_nx, ev_rt, ev_bk, ev_ct, ev_ex, ev_ono, ev_onx, ev_ort, ev_oex, ev_set, ev_ret, ev_if, ev_expr, ev_raise, ev_c, ev_peek, ev_var, ev_mov, ev_op, ev_ix, ev_un, ev_isi, ev_callB, ev_call, ev_callF, ev_esn, ev_esc, ev_tup, ev_lst, ev_tof, ev_and, ev_or, ev_not, ev_yes, ev_eand, ev_eor, ev_eif, ev_chain, ev_sl, ev_pn, ev_ps, ev_lc, ev_asg, ev_gn, ev_gt, ev_gc, ev_gnil, ev_for, ev_while, ev_range, ev_iof, ev_ienum, ev_append, ev_tidx, ev_isc, ev_try, ev_add, ev_sub, re_bok, re_bex, re_bno, re_of, re_sok, re_sex, re_sno, List.map_cons, List.map_nil, List.length_cons, List.length_nil, List.replicate_succ, List.replicate_zero, List.cons_append, List.nil_append, List.getElem?_cons_zero, List.getElem?_cons_succ, List.getElem?_nil, List.set_cons_zero, List.set_cons_succ, List.set_nil, Nat.reduceAdd, Nat.reduceSub, Nat.reduceEqDiff, ↓reduceIte, Bool.not_true, Bool.not_false, Bool.false_eq_true, D.frz, D.frzs, eq_int, ne_int, eq_bl, ne_bl, decide_true, decide_false, Option.bind_some, Option.map_some, wipeE, v_isN, v_notN, non_int, non_str, non_non, true_or, or_true, D.clean, D.cleans, D.ownss, D.owns, Bool.or_false, Bool.false_or, Bool.and_true, Bool.true_and, v_add, v_sub, v_lt, v_le, v_gt, v_ge, v_neg, v_lenL, v_lenT, v_lts, ownL, hacc]
            · simp (disch := first | decide | omega | assumption) only [sz_le, sz_lt, v_mod, v_div, v_range, v_mul, ev_fn, ev_start, ev_seq, ev_nil, ev_nx, ev_rt, ev_bk, ev_ct, ev_ex, ev_ono, ev_onx, ev_ort, ev_oex, ev_set, ev_ret, ev_if, ev_expr, ev_raise, ev_c, ev_peek, ev_var, ev_mov, ev_op, ev_ix, ev_un, ev_isi, ev_callB, ev_call, ev_callF, ev_esn, ev_esc, ev_tup, ev_lst, ev_tof, ev_and, ev_or, ev_not, ev_yes, ev_eand, ev_eor, ev_eif, ev_chain, ev_sl, ev_pn, ev_ps, ev_lc, ev_asg, ev_gn, ev_gt, ev_gc, ev_gnil, ev_for, ev_while, ev_range, ev_iof, ev_ienum, ev_append, ev_tidx, ev_isc, ev_try, ev_add, ev_sub, re_bok, re_bex, re_bno, re_of, re_sok, re_sex, re_sno, List.map_cons, List.map_nil, List.length_cons, List.length_nil, List.replicate_succ, List.replicate_zero, List.cons_append, List.nil_append, List.getElem?_cons_zero, List.getElem?_cons_succ, List.getElem?_nil, List.set_cons_zero, List.set_cons_succ, List.set_nil, Nat.reduceAdd, Nat.reduceSub, Nat.reduceEqDiff, ↓reduceIte, Bool.not_true, Bool.not_false, Bool.false_eq_true, D.frz, D.frzs, eq_int, ne_int, eq_bl, ne_bl, decide_true, decide_false, Option.bind_some, Option.map_some, wipeE, v_isN, v_notN, non_int, non_str, non_non, true_or, or_true, D.clean, D.cleans, D.ownss, D.owns, Bool.or_false, Bool.false_or, Bool.and_true, Bool.true_and, v_add, v_sub, v_lt, v_le, v_gt, v_ge, v_neg, v_lenL, v_lenT, v_lts, v_ixL hget (own_w ww), nw, opS, opP, eq_str (x := Str.ofString "<") (y := Str.ofString "=") (b := false) (by decide +kernel) (by decide +kernel) (by decide +kernel), eq_str (x := Str.ofString "<") (y := Str.ofString "<") (b := true) (by decide +kernel) (by decide +kernel) (by decide +kernel), eq_str (x := Str.ofString "<") (y := Str.ofString ">") (b := false) (by decide +kernel) (by decide +kernel) (by decide +kernel), p_less ww wk nw nk, frz_w ww, frz_w wk, ownL]
              cases lessW w k <;> simp (disch := first | decide | omega | assumption) only [sz_le, sz_lt, v_mod, v_div, v_range, v_mul, ev_fn, ev_start, ev_seq, ev_nil, ev_nx, ev_rt, ev_bk, ev_ct, ev_ex, ev_ono, ev_onx, ev_ort, ev_oex, ev_set, ev_ret, ev_if, ev_expr, ev_raise, ev_c, ev_peek, ev_var, ev_mov, ev_op, ev_ix, ev_un, ev_isi, ev_callB, ev_call, ev_callF, ev_esn, ev_esc, ev_tup, ev_lst, ev_tof, ev_and, ev_or, ev_not, ev_yes, ev_eand, ev_eor, ev_eif, ev_chain, ev_sl, ev_pn, ev_ps, ev_lc, ev_asg, ev_gn, ev_gt, ev_gc, ev_gnil, ev_for, ev_while, ev_range, ev_iof, ev_ienum, ev_append, ev_tidx, ev_isc, ev_try, ev_add, ev_sub, re_bok, re_bex, re_bno, re_of, re_sok, re_sex, re_sno, List.map_cons, List.map_nil, List.length_cons, List.length_nil, List.replicate_succ, List.replicate_zero, List.cons_append, List.nil_append, List.getElem?_cons_zero, List.getElem?_cons_succ, List.getElem?_nil, List.set_cons_zero, List.set_cons_succ, List.set_nil, Nat.reduceAdd, Nat.reduceSub, Nat.reduceEqDiff, ↓reduceIte, Bool.not_true, Bool.not_false, Bool.false_eq_true, D.frz, D.frzs, eq_int, ne_int, eq_bl, ne_bl, decide_true, decide_false, Option.bind_some, Option.map_some, wipeE, v_isN, v_notN, non_int, non_str, non_non, true_or, or_true, D.clean, D.cleans, D.ownss, D.owns, Bool.or_false, Bool.false_or, Bool.and_true, Bool.true_and, v_add, v_sub, v_lt, v_le, v_gt, v_ge, v_neg, v_lenL, v_lenT, v_lts, ownL, hacc]
            · simp (disch := first | decide | omega | assumption) only [sz_le, sz_lt, v_mod, v_div, v_range, v_mul, ev_fn, ev_start, ev_seq, ev_nil, ev_nx, ev_rt, ev_bk, ev_ct, ev_ex, ev_ono, ev_onx, ev_ort, ev_oex, ev_set, ev_ret, ev_if, ev_expr, ev_raise, ev_c, ev_peek, ev_var, ev_mov, ev_op, ev_ix, ev_un, ev_isi, ev_callB, ev_call, ev_callF, ev_esn, ev_esc, ev_tup, ev_lst, ev_tof, ev_and, ev_or, ev_not, ev_yes, ev_eand, ev_eor, ev_eif, ev_chain, ev_sl, ev_pn, ev_ps, ev_lc, ev_asg, ev_gn, ev_gt, ev_gc, ev_gnil, ev_for, ev_while, ev_range, ev_iof, ev_ienum, ev_append, ev_tidx, ev_isc, ev_try, ev_add, ev_sub, re_bok, re_bex, re_bno, re_of, re_sok, re_sex, re_sno, List.map_cons, List.map_nil, List.length_cons, List.length_nil, List.replicate_succ, List.replicate_zero, List.cons_append, List.nil_append, List.getElem?_cons_zero, List.getElem?_cons_succ, List.getElem?_nil, List.set_cons_zero, List.set_cons_succ, List.set_nil, Nat.reduceAdd, Nat.reduceSub, Nat.reduceEqDiff, ↓reduceIte, Bool.not_true, Bool.not_false, Bool.false_eq_true, D.frz, D.frzs, eq_int, ne_int, eq_bl, ne_bl, decide_true, decide_false, Option.bind_some, Option.map_some, wipeE, v_isN, v_notN, non_int, non_str, non_non, true_or, or_true, D.clean, D.cleans, D.ownss, D.owns, Bool.or_false, Bool.false_or, Bool.and_true, Bool.true_and, v_add, v_sub, v_lt, v_le, v_gt, v_ge, v_neg, v_lenL, v_lenT, v_lts, v_ixL hget (own_w ww), nw, opS, opP, eq_str (x := Str.ofString ">") (y := Str.ofString "=") (b := false) (by decide +kernel) (by decide +kernel) (by decide +kernel), eq_str (x := Str.ofString ">") (y := Str.ofString "<") (b := false) (by decide +kernel) (by decide +kernel) (by decide +kernel), eq_str (x := Str.ofString ">") (y := Str.ofString ">") (b := true) (by decide +kernel) (by decide +kernel) (by decide +kernel), p_less wk ww nk nw, frz_w ww, frz_w wk, ownL]
              cases lessW k w <;> simp (disch := first | decide | omega | assumption) only [sz_le, sz_lt, v_mod, v_div, v_range, v_mul, ev_fn, ev_start, ev_seq, ev_nil, ev_nx, ev_rt, ev_bk, ev_ct, ev_ex, ev_ono, ev_onx, ev_ort, ev_oex, ev_set, ev_ret, ev_if, ev_expr, ev_raise, ev_c, ev_peek, ev_var, ev_mov, ev_op, ev_ix, ev_un, ev_isi, ev_callB, ev_call, ev_callF, ev_esn, ev_esc, ev_tup, ev_lst, ev_tof, ev_and, ev_or, ev_not, ev_yes, ev_eand, ev_eor, ev_eif, ev_chain, ev_sl, ev_pn, ev_ps, ev_lc, ev_asg, ev_gn, ev_gt, ev_gc, ev_gnil, ev_for, ev_while, ev_range, ev_iof, ev_ienum, ev_append, ev_tidx, ev_isc, ev_try, ev_add, ev_sub, re_bok, re_bex, re_bno, re_of, re_sok, re_sex, re_sno, List.map_cons, List.map_nil, List.length_cons, List.length_nil, List.replicate_succ, List.replicate_zero, List.cons_append, List.nil_append, List.getElem?_cons_zero, List.getElem?_cons_succ, List.getElem?_nil, List.set_cons_zero, List.set_cons_succ, List.set_nil, Nat.reduceAdd, Nat.reduceSub, Nat.reduceEqDiff, ↓reduceIte, Bool.not_true, Bool.not_false, Bool.false_eq_true, D.frz, D.frzs, eq_int, ne_int, eq_bl, ne_bl, decide_true, decide_false, Option.bind_some, Option.map_some, wipeE, v_isN, v_notN, non_int, non_str, non_non, true_or, or_true, D.clean, D.cleans, D.ownss, D.owns, Bool.or_false, Bool.false_or, Bool.and_true, Bool.true_and, v_add, v_sub, v_lt, v_le, v_gt, v_ge, v_neg, v_lenL, v_lenT, v_lts, ownL, hacc]
        · rw [pl]
          by_cases h : (fun w => !w.isNon && opP o w k) w = true
          · rw [if_pos h]; exact step h
          · rw [if_neg h]; exact step' h) ⟨[], none, none, [], col, rfl, rfl, rfl, hT⟩
  obtain ⟨acc, o4, o5, pre, post, e1, e2, e3, e4⟩ := h2
  have hp : post = [] := by
    cases post with
    | nil => rfl
    | cons w post => cases e1
  subst hp e3
  rw [h1]
  have : acc = T := by
    have z : acc ++ [] = T := e4
    rw [List.append_nil] at z; exact z
  subst this
  simp (disch := first | decide | omega | assumption) only [sz_le, sz_lt, v_mod, v_div, v_range, v_mul, ev_fn, ev_start, ev_seq, ev_nil, ev_nx, ev_rt, ev_bk, ev_ct, ev_ex, ev_ono, ev_onx, ev_ort, ev_oex, ev_set, ev_ret, ev_if, ev_expr, ev_raise, ev_c, ev_peek, ev_var, ev_mov, ev_op, ev_ix, ev_un, ev_isi, ev_callB, ev_call, ev_callF, ev_esn, ev_esc, ev_tup, ev_lst, ev_tof, ev_and, ev_or, ev_not, ev_yes, ev_eand, ev_eor, ev_eif, ev_chain, ev_sl, ev_pn, ev_ps, ev_lc, ev_asg, ev_gn, ev_gt, ev_gc, ev_gnil, ev_for, ev_while, ev_range, ev_iof, ev_ienum, ev_append, ev_tidx, ev_isc, ev_try, ev_add, ev_sub, re_bok, re_bex, re_bno, re_of, re_sok, re_sex, re_sno, List.map_cons, List.map_nil, List.length_cons, List.length_nil, List.replicate_succ, List.replicate_zero, List.cons_append, List.nil_append, List.getElem?_cons_zero, List.getElem?_cons_succ, List.getElem?_nil, List.set_cons_zero, List.set_cons_succ, List.set_nil, Nat.reduceAdd, Nat.reduceSub, Nat.reduceEqDiff, ↓reduceIte, Bool.not_true, Bool.not_false, Bool.false_eq_true, D.frz, D.frzs, eq_int, ne_int, eq_bl, ne_bl, decide_true, decide_false, Option.bind_some, Option.map_some, wipeE, v_isN, v_notN, non_int, non_str, non_non, true_or, or_true, D.clean, D.cleans, D.ownss, D.owns, Bool.or_false, Bool.false_or, Bool.and_true, Bool.true_and, v_add, v_sub, v_lt, v_le, v_gt, v_ge, v_neg, v_lenL, v_lenT, v_lts, ]
end
end Gk72

namespace Gk72
open PySem PySem.Spec OL
section
variable {K : PySem.W.Frag} {ca : Nat → Addr}
theorem nats_nil {k : Nat} {ds : List D} (h : [] = natsF k ds.length) : ds = [] := by
  cases ds with
  | nil => rfl
  | cons w ds => cases h
theorem p_pairs {xs ys : List D} (wx : ∀ d ∈ xs, isW d) (wy : ∀ d ∈ ys, isW d) (lx : xs.length < 100) (ly : ys.length < 100) :
    s__law_pairs K ca [.lst false xs, .lst false ys] = .ok (.lst true (pr1 meet ys 0 xs)) := by
  unfold s__law_pairs r__law_pairs
  simp (disch := first | decide | omega | assumption) only [sz_le, sz_lt, v_mod, v_div, v_range, v_mul, ev_fn, ev_start, ev_seq, ev_nil, ev_nx, ev_rt, ev_bk, ev_ct, ev_ex, ev_ono, ev_onx, ev_ort, ev_oex, ev_set, ev_ret, ev_if, ev_expr, ev_raise, ev_c, ev_peek, ev_var, ev_mov, ev_op, ev_ix, ev_un, ev_isi, ev_callB, ev_call, ev_callF, ev_esn, ev_esc, ev_tup, ev_lst, ev_tof, ev_and, ev_or, ev_not, ev_yes, ev_eand, ev_eor, ev_eif, ev_chain, ev_sl, ev_pn, ev_ps, ev_lc, ev_asg, ev_gn, ev_gt, ev_gc, ev_gnil, ev_for, ev_while, ev_range, ev_iof, ev_ienum, ev_append, ev_tidx, ev_isc, ev_try, ev_add, ev_sub, re_bok, re_bex, re_bno, re_of, re_sok, re_sex, re_sno, List.map_cons, List.map_nil, List.length_cons, List.length_nil, List.replicate_succ, List.replicate_zero, List.cons_append, List.nil_append, List.getElem?_cons_zero, List.getElem?_cons_succ, List.getElem?_nil, List.set_cons_zero, List.set_cons_succ, List.set_nil, Nat.reduceAdd, Nat.reduceSub, Nat.reduceEqDiff, ↓reduceIte, Bool.not_true, Bool.not_false, Bool.false_eq_true, D.frz, D.frzs, eq_int, ne_int, eq_bl, ne_bl, decide_true, decide_false, Option.bind_some, Option.map_some, wipeE, v_isN, v_notN, non_int, non_str, non_non, true_or, or_true, D.clean, D.cleans, D.ownss, D.owns, Bool.or_false, Bool.false_or, Bool.and_true, Bool.true_and, v_add, v_sub, v_lt, v_le, v_gt, v_ge, v_neg, v_lenL, v_lenT, v_lts, rangeD_nats, natsD_F]
  generalize hT : pr1 meet ys 0 xs = T
  have hT2 : T.length < 100000 := by
    rw [← hT]
    have h1 := pr1_len meet ys 0 xs
    have h2 : xs.length * ys.length ≤ 100 * 100 := Nat.mul_le_mul (by omega) (by omega)
    omega
  have outer := forL_run (g := g_name 3) (b := s_for (i_range gRange1 (es_cons (e_callB gLen (es_cons (e_peek 1) (es_nil))) (es_nil))) (g_name 4) (s_if (t_and (t_of (e_op gNotN (e_ix (e_peek 0) (e_peek 3)) (e_c .non))) (t_of (e_op gEq (e_ix (e_peek 0) (e_peek 3)) (e_ix (e_peek 1) (e_peek 4))))) (s_append 2 (e_tup (es_cons (e_var 3) (es_cons (e_var 4) (es_nil))))) (s_nil)))
    (fun ds ρ => ∃ acc o3 o4 pre post, ds = natsF pre.length post.length ∧ xs = pre ++ post ∧ ρ = [some (.lst false xs), some (.lst false ys), some (.lst true acc), o3, o4] ∧ acc ++ pr1 meet ys pre.length post = T)
    (fun d ds ρ ⟨acc, o3, o4, pre, post, e1, e2, e3, e4⟩ => by
      cases post with
      | nil => cases e1
      | cons x post =>
        rw [List.length_cons] at e1
        unfold natsF at e1
        injection e1 with e5 e6
        subst e5 e6 e3
        have wx' : isW x := wx x (by rw [e2]; exact List.mem_append_right _ List.mem_cons_self)
        have hget : xs[pre.length]? = some x := by rw [e2, List.getElem?_append_right (Nat.le_refl _), Nat.sub_self]; rfl
        have e2' : xs = (pre ++ [x]) ++ post := by rw [e2, List.append_assoc]; rfl
        have pl : (pre ++ [x]).length = pre.length + 1 := by rw [List.length_append]; rfl
        have e4' : (acc ++ pr2 meet pre.length x 0 ys) ++ pr1 meet ys (pre.length + 1) post = T := by
          rw [← e4]
          conv => rhs; unfold pr1
          rw [List.append_assoc]
        have inner := forL_run (g := g_name 4) (b := s_if (t_and (t_of (e_op gNotN (e_ix (e_peek 0) (e_peek 3)) (e_c .non))) (t_of (e_op gEq (e_ix (e_peek 0) (e_peek 3)) (e_ix (e_peek 1) (e_peek 4))))) (s_append 2 (e_tup (es_cons (e_var 3) (es_cons (e_var 4) (es_nil))))) (s_nil))
          (fun ds ρ => ∃ acc2 o4 pre2 post2, ds = natsF pre2.length post2.length ∧ ys = pre2 ++ post2 ∧ ρ = [some (.lst false xs), some (.lst false ys), some (.lst true acc2), some (.int (pre.length : Nat)), o4] ∧ acc2 ++ pr2 meet pre.length x pre2.length post2 = acc ++ pr2 meet pre.length x 0 ys)
          (fun d ds ρ ⟨acc2, o4, pre2, post2, f1, f2, f3, f4⟩ => by
            cases post2 with
            | nil => cases f1
            | cons y post2 =>
              rw [List.length_cons] at f1
              unfold natsF at f1
              injection f1 with f5 f6
              subst f5 f6 f3
              have wy' : isW y := wy y (by rw [f2]; exact List.mem_append_right _ List.mem_cons_self)
              have hget2 : ys[pre2.length]? = some y := by rw [f2, List.getElem?_append_right (Nat.le_refl _), Nat.sub_self]; rfl
              have f2' : ys = (pre2 ++ [y]) ++ post2 := by rw [f2, List.append_assoc]; rfl
              have pl2 : (pre2 ++ [y]).length = pre2.length + 1 := by rw [List.length_append]; rfl
              have hacc : acc2.length < sizeLine := sz_lt (by
                have h1 := congrArg List.length f4
                have h2 := congrArg List.length e4'
                simp only [List.length_append] at h1 h2
                omega)
              refine ⟨[some (.lst false xs), some (.lst false ys), some (.lst true acc2), some (.int (pre.length : Nat)), some (.int (pre2.length : Nat))],
                [some (.lst false xs), some (.lst false ys), some (.lst true (if meet x y = true then acc2 ++ [.tup [.int (pre.length : Nat), .int (pre2.length : Nat)]] else acc2)), some (.int (pre.length : Nat)), some (.int (pre2.length : Nat))], by simp (disch := first | decide | omega | assumption) only [sz_le, sz_lt, v_mod, v_div, v_range, v_mul, ev_fn, ev_start, ev_seq, ev_nil, ev_nx, ev_rt, ev_bk, ev_ct, ev_ex, ev_ono, ev_onx, ev_ort, ev_oex, ev_set, ev_ret, ev_if, ev_expr, ev_raise, ev_c, ev_peek, ev_var, ev_mov, ev_op, ev_ix, ev_un, ev_isi, ev_callB, ev_call, ev_callF, ev_esn, ev_esc, ev_tup, ev_lst, ev_tof, ev_and, ev_or, ev_not, ev_yes, ev_eand, ev_eor, ev_eif, ev_chain, ev_sl, ev_pn, ev_ps, ev_lc, ev_asg, ev_gn, ev_gt, ev_gc, ev_gnil, ev_for, ev_while, ev_range, ev_iof, ev_ienum, ev_append, ev_tidx, ev_isc, ev_try, ev_add, ev_sub, re_bok, re_bex, re_bno, re_of, re_sok, re_sex, re_sno, List.map_cons, List.map_nil, List.length_cons, List.length_nil, List.replicate_succ, List.replicate_zero, List.cons_append, List.nil_append, List.getElem?_cons_zero, List.getElem?_cons_succ, List.getElem?_nil, List.set_cons_zero, List.set_cons_succ, List.set_nil, Nat.reduceAdd, Nat.reduceSub, Nat.reduceEqDiff, ↓reduceIte, Bool.not_true, Bool.not_false, Bool.false_eq_true, D.frz, D.frzs, eq_int, ne_int, eq_bl, ne_bl, decide_true, decide_false, Option.bind_some, Option.map_some, wipeE, v_isN, v_notN, non_int, non_str, non_non, true_or, or_true, D.clean, D.cleans, D.ownss, D.owns, Bool.or_false, Bool.false_or, Bool.and_true, Bool.true_and, v_add, v_sub, v_lt, v_le, v_gt, v_ge, v_neg, v_lenL, v_lenT, v_lts, ], .inl ?_, _, _, pre2 ++ [y], post2, by rw [pl2], f2', rfl, ?_⟩
              · unfold meet
                cases nx : x.isNon with
                | true => simp (disch := first | decide | omega | assumption) only [sz_le, sz_lt, v_mod, v_div, v_range, v_mul, ev_fn, ev_start, ev_seq, ev_nil, ev_nx, ev_rt, ev_bk, ev_ct, ev_ex, ev_ono, ev_onx, ev_ort, ev_oex, ev_set, ev_ret, ev_if, ev_expr, ev_raise, ev_c, ev_peek, ev_var, ev_mov, ev_op, ev_ix, ev_un, ev_isi, ev_callB, ev_call, ev_callF, ev_esn, ev_esc, ev_tup, ev_lst, ev_tof, ev_and, ev_or, ev_not, ev_yes, ev_eand, ev_eor, ev_eif, ev_chain, ev_sl, ev_pn, ev_ps, ev_lc, ev_asg, ev_gn, ev_gt, ev_gc, ev_gnil, ev_for, ev_while, ev_range, ev_iof, ev_ienum, ev_append, ev_tidx, ev_isc, ev_try, ev_add, ev_sub, re_bok, re_bex, re_bno, re_of, re_sok, re_sex, re_sno, List.map_cons, List.map_nil, List.length_cons, List.length_nil, List.replicate_succ, List.replicate_zero, List.cons_append, List.nil_append, List.getElem?_cons_zero, List.getElem?_cons_succ, List.getElem?_nil, List.set_cons_zero, List.set_cons_succ, List.set_nil, Nat.reduceAdd, Nat.reduceSub, Nat.reduceEqDiff, ↓reduceIte, Bool.not_true, Bool.not_false, Bool.false_eq_true, D.frz, D.frzs, eq_int, ne_int, eq_bl, ne_bl, decide_true, decide_false, Option.bind_some, Option.map_some, wipeE, v_isN, v_notN, non_int, non_str, non_non, true_or, or_true, D.clean, D.cleans, D.ownss, D.owns, Bool.or_false, Bool.false_or, Bool.and_true, Bool.true_and, v_add, v_sub, v_lt, v_le, v_gt, v_ge, v_neg, v_lenL, v_lenT, v_lts, v_ixL hget (own_w wx'), nx, Bool.false_and]
                | false =>
                  simp (disch := first | decide | omega | assumption) only [sz_le, sz_lt, v_mod, v_div, v_range, v_mul, ev_fn, ev_start, ev_seq, ev_nil, ev_nx, ev_rt, ev_bk, ev_ct, ev_ex, ev_ono, ev_onx, ev_ort, ev_oex, ev_set, ev_ret, ev_if, ev_expr, ev_raise, ev_c, ev_peek, ev_var, ev_mov, ev_op, ev_ix, ev_un, ev_isi, ev_callB, ev_call, ev_callF, ev_esn, ev_esc, ev_tup, ev_lst, ev_tof, ev_and, ev_or, ev_not, ev_yes, ev_eand, ev_eor, ev_eif, ev_chain, ev_sl, ev_pn, ev_ps, ev_lc, ev_asg, ev_gn, ev_gt, ev_gc, ev_gnil, ev_for, ev_while, ev_range, ev_iof, ev_ienum, ev_append, ev_tidx, ev_isc, ev_try, ev_add, ev_sub, re_bok, re_bex, re_bno, re_of, re_sok, re_sex, re_sno, List.map_cons, List.map_nil, List.length_cons, List.length_nil, List.replicate_succ, List.replicate_zero, List.cons_append, List.nil_append, List.getElem?_cons_zero, List.getElem?_cons_succ, List.getElem?_nil, List.set_cons_zero, List.set_cons_succ, List.set_nil, Nat.reduceAdd, Nat.reduceSub, Nat.reduceEqDiff, ↓reduceIte, Bool.not_true, Bool.not_false, Bool.false_eq_true, D.frz, D.frzs, eq_int, ne_int, eq_bl, ne_bl, decide_true, decide_false, Option.bind_some, Option.map_some, wipeE, v_isN, v_notN, non_int, non_str, non_non, true_or, or_true, D.clean, D.cleans, D.ownss, D.owns, Bool.or_false, Bool.false_or, Bool.and_true, Bool.true_and, v_add, v_sub, v_lt, v_le, v_gt, v_ge, v_neg, v_lenL, v_lenT, v_lts, v_ixL hget (own_w wx'), v_ixL hget2 (own_w wy'), nx, eq_w wx' wy', ownL]
                  cases weq x y <;> simp (disch := first | decide | omega | assumption) only [sz_le, sz_lt, v_mod, v_div, v_range, v_mul, ev_fn, ev_start, ev_seq, ev_nil, ev_nx, ev_rt, ev_bk, ev_ct, ev_ex, ev_ono, ev_onx, ev_ort, ev_oex, ev_set, ev_ret, ev_if, ev_expr, ev_raise, ev_c, ev_peek, ev_var, ev_mov, ev_op, ev_ix, ev_un, ev_isi, ev_callB, ev_call, ev_callF, ev_esn, ev_esc, ev_tup, ev_lst, ev_tof, ev_and, ev_or, ev_not, ev_yes, ev_eand, ev_eor, ev_eif, ev_chain, ev_sl, ev_pn, ev_ps, ev_lc, ev_asg, ev_gn, ev_gt, ev_gc, ev_gnil, ev_for, ev_while, ev_range, ev_iof, ev_ienum, ev_append, ev_tidx, ev_isc, ev_try, ev_add, ev_sub, re_bok, re_bex, re_bno, re_of, re_sok, re_sex, re_sno, List.map_cons, List.map_nil, List.length_cons, List.length_nil, List.replicate_succ, List.replicate_zero, List.cons_append, List.nil_append, List.getElem?_cons_zero, List.getElem?_cons_succ, List.getElem?_nil, List.set_cons_zero, List.set_cons_succ, List.set_nil, Nat.reduceAdd, Nat.reduceSub, Nat.reduceEqDiff, ↓reduceIte, Bool.not_true, Bool.not_false, Bool.false_eq_true, D.frz, D.frzs, eq_int, ne_int, eq_bl, ne_bl, decide_true, decide_false, Option.bind_some, Option.map_some, wipeE, v_isN, v_notN, non_int, non_str, non_non, true_or, or_true, D.clean, D.cleans, D.ownss, D.owns, Bool.or_false, Bool.false_or, Bool.and_true, Bool.true_and, v_add, v_sub, v_lt, v_le, v_gt, v_ge, v_neg, v_lenL, v_lenT, v_lts, ownL, hacc]
              · rw [pl2, ← f4]
                conv => rhs; unfold pr2
                by_cases h : meet x y = true
                · rw [if_pos h, if_pos h, List.append_assoc]; rfl
                · rw [if_neg h, if_neg h])
          (ds := natsF 0 ys.length) (ρ := [some (.lst false xs), some (.lst false ys), some (.lst true acc), some (.int (pre.length : Nat)), o4]) ⟨acc, o4, [], ys, rfl, rfl, rfl, rfl⟩
        obtain ⟨ρ', h1, acc2, o4', pre2, post2, f1, f2, f3, f4⟩ := inner
        have hp := nats_nil f1
        subst hp f3
        have f4' : acc2 = acc ++ pr2 meet pre.length x 0 ys := by
          have z : acc2 ++ [] = acc ++ pr2 meet pre.length x 0 ys := f4
          rwa [List.append_nil] at z
        subst f4'
        refine ⟨[some (.lst false xs), some (.lst false ys), some (.lst true acc), some (.int (pre.length : Nat)), o4], _, by simp (disch := first | decide | omega | assumption) only [sz_le, sz_lt, v_mod, v_div, v_range, v_mul, ev_fn, ev_start, ev_seq, ev_nil, ev_nx, ev_rt, ev_bk, ev_ct, ev_ex, ev_ono, ev_onx, ev_ort, ev_oex, ev_set, ev_ret, ev_if, ev_expr, ev_raise, ev_c, ev_peek, ev_var, ev_mov, ev_op, ev_ix, ev_un, ev_isi, ev_callB, ev_call, ev_callF, ev_esn, ev_esc, ev_tup, ev_lst, ev_tof, ev_and, ev_or, ev_not, ev_yes, ev_eand, ev_eor, ev_eif, ev_chain, ev_sl, ev_pn, ev_ps, ev_lc, ev_asg, ev_gn, ev_gt, ev_gc, ev_gnil, ev_for, ev_while, ev_range, ev_iof, ev_ienum, ev_append, ev_tidx, ev_isc, ev_try, ev_add, ev_sub, re_bok, re_bex, re_bno, re_of, re_sok, re_sex, re_sno, List.map_cons, List.map_nil, List.length_cons, List.length_nil, List.replicate_succ, List.replicate_zero, List.cons_append, List.nil_append, List.getElem?_cons_zero, List.getElem?_cons_succ, List.getElem?_nil, List.set_cons_zero, List.set_cons_succ, List.set_nil, Nat.reduceAdd, Nat.reduceSub, Nat.reduceEqDiff, ↓reduceIte, Bool.not_true, Bool.not_false, Bool.false_eq_true, D.frz, D.frzs, eq_int, ne_int, eq_bl, ne_bl, decide_true, decide_false, Option.bind_some, Option.map_some, wipeE, v_isN, v_notN, non_int, non_str, non_non, true_or, or_true, D.clean, D.cleans, D.ownss, D.owns, Bool.or_false, Bool.false_or, Bool.and_true, Bool.true_and, v_add, v_sub, v_lt, v_le, v_gt, v_ge, v_neg, v_lenL, v_lenT, v_lts, ], .inl (?_ : _ = RO.nx [some (.lst false xs), some (.lst false ys), some (.lst true (acc ++ pr2 meet pre.length x 0 ys)), some (.int (pre.length : Nat)), o4']), _, _, _, pre ++ [x], post, by rw [pl], e2', rfl, by rw [pl]; exact e4'⟩
        simp (disch := first | decide | omega | assumption) only [sz_le, sz_lt, v_mod, v_div, v_range, v_mul, ev_fn, ev_start, ev_seq, ev_nil, ev_nx, ev_rt, ev_bk, ev_ct, ev_ex, ev_ono, ev_onx, ev_ort, ev_oex, ev_set, ev_ret, ev_if, ev_expr, ev_raise, ev_c, ev_peek, ev_var, ev_mov, ev_op, ev_ix, ev_un, ev_isi, ev_callB, ev_call, ev_callF, ev_esn, ev_esc, ev_tup, ev_lst, ev_tof, ev_and, ev_or, ev_not, ev_yes, ev_eand, ev_eor, ev_eif, ev_chain, ev_sl, ev_pn, ev_ps, ev_lc, ev_asg, ev_gn, ev_gt, ev_gc, ev_gnil, ev_for, ev_while, ev_range, ev_iof, ev_ienum, ev_append, ev_tidx, ev_isc, ev_try, ev_add, ev_sub, re_bok, re_bex, re_bno, re_of, re_sok, re_sex, re_sno, List.map_cons, List.map_nil, List.length_cons, List.length_nil, List.replicate_succ, List.replicate_zero, List.cons_append, List.nil_append, List.getElem?_cons_zero, List.getElem?_cons_succ, List.getElem?_nil, List.set_cons_zero, List.set_cons_succ, List.set_nil, Nat.reduceAdd, Nat.reduceSub, Nat.reduceEqDiff, ↓reduceIte, Bool.not_true, Bool.not_false, Bool.false_eq_true, D.frz, D.frzs, eq_int, ne_int, eq_bl, ne_bl, decide_true, decide_false, Option.bind_some, Option.map_some, wipeE, v_isN, v_notN, non_int, non_str, non_non, true_or, or_true, D.clean, D.cleans, D.ownss, D.owns, Bool.or_false, Bool.false_or, Bool.and_true, Bool.true_and, v_add, v_sub, v_lt, v_le, v_gt, v_ge, v_neg, v_lenL, v_lenT, v_lts, rangeD_nats, natsD_F]
        exact h1)
    (ds := natsF 0 xs.length) (ρ := [some (.lst false xs), some (.lst false ys), some (.lst true []), none, none]) ⟨[], none, none, [], xs, rfl, rfl, rfl, hT⟩
  obtain ⟨ρ', h1, acc, o3, o4, pre, post, e1, e2, e3, e4⟩ := outer
  have hp := nats_nil e1
  subst hp e3
  rw [h1]
  have : acc = T := by
    have z : acc ++ [] = T := e4
    rwa [List.append_nil] at z
  subst this
  simp (disch := first | decide | omega | assumption) only [sz_le, sz_lt, v_mod, v_div, v_range, v_mul, ev_fn, ev_start, ev_seq, ev_nil, ev_nx, ev_rt, ev_bk, ev_ct, ev_ex, ev_ono, ev_onx, ev_ort, ev_oex, ev_set, ev_ret, ev_if, ev_expr, ev_raise, ev_c, ev_peek, ev_var, ev_mov, ev_op, ev_ix, ev_un, ev_isi, ev_callB, ev_call, ev_callF, ev_esn, ev_esc, ev_tup, ev_lst, ev_tof, ev_and, ev_or, ev_not, ev_yes, ev_eand, ev_eor, ev_eif, ev_chain, ev_sl, ev_pn, ev_ps, ev_lc, ev_asg, ev_gn, ev_gt, ev_gc, ev_gnil, ev_for, ev_while, ev_range, ev_iof, ev_ienum, ev_append, ev_tidx, ev_isc, ev_try, ev_add, ev_sub, re_bok, re_bex, re_bno, re_of, re_sok, re_sex, re_sno, List.map_cons, List.map_nil, List.length_cons, List.length_nil, List.replicate_succ, List.replicate_zero, List.cons_append, List.nil_append, List.getElem?_cons_zero, List.getElem?_cons_succ, List.getElem?_nil, List.set_cons_zero, List.set_cons_succ, List.set_nil, Nat.reduceAdd, Nat.reduceSub, Nat.reduceEqDiff, ↓reduceIte, Bool.not_true, Bool.not_false, Bool.false_eq_true, D.frz, D.frzs, eq_int, ne_int, eq_bl, ne_bl, decide_true, decide_false, Option.bind_some, Option.map_some, wipeE, v_isN, v_notN, non_int, non_str, non_non, true_or, or_true, D.clean, D.cleans, D.ownss, D.owns, Bool.or_false, Bool.false_or, Bool.and_true, Bool.true_and, v_add, v_sub, v_lt, v_le, v_gt, v_ge, v_neg, v_lenL, v_lenT, v_lts, ]
theorem enum_nil {k : Nat} {ds : List D} (h : [] = enumD k ds) : ds = [] := by
  cases ds with
  | nil => rfl
  | cons w ds => cases h
theorem p_paired_rows {most most2 : Nat} {hs hs2 : List Str} {rs rs2 : List (List D)} (t : Tab most hs rs) (t2 : Tab most2 hs2 rs2) (hm : most < 100) (hm2 : most2 < 100) (h h2 : Str) (hk : PyData.strOk h = true) (hk2 : PyData.strOk h2 = true) :
    s_paired_rows K ca [tabD hs rs, .str h, tabD hs2 rs2, .str h2] = match idxS hs h, idxS hs2 h2 with | some i, some j => .ok (.lst true (pr1 meet (colD rs2 j) 0 (colD rs i))) | _, _ => .ex 1 := by
  cases q : idxS hs h with
  | none =>
    have A : s_column_of K ca [tabD hs rs, .str h] = .ex 1 := by rw [p_column_of t (by omega) h hk, q]
    unfold s_paired_rows r_paired_rows
    simp (disch := first | decide | omega | assumption) only [sz_le, sz_lt, v_mod, v_div, v_range, v_mul, ev_fn, ev_start, ev_seq, ev_nil, ev_nx, ev_rt, ev_bk, ev_ct, ev_ex, ev_ono, ev_onx, ev_ort, ev_oex, ev_set, ev_ret, ev_if, ev_expr, ev_raise, ev_c, ev_peek, ev_var, ev_mov, ev_op, ev_ix, ev_un, ev_isi, ev_callB, ev_call, ev_callF, ev_esn, ev_esc, ev_tup, ev_lst, ev_tof, ev_and, ev_or, ev_not, ev_yes, ev_eand, ev_eor, ev_eif, ev_chain, ev_sl, ev_pn, ev_ps, ev_lc, ev_asg, ev_gn, ev_gt, ev_gc, ev_gnil, ev_for, ev_while, ev_range, ev_iof, ev_ienum, ev_append, ev_tidx, ev_isc, ev_try, ev_add, ev_sub, re_bok, re_bex, re_bno, re_of, re_sok, re_sex, re_sno, List.map_cons, List.map_nil, List.length_cons, List.length_nil, List.replicate_succ, List.replicate_zero, List.cons_append, List.nil_append, List.getElem?_cons_zero, List.getElem?_cons_succ, List.getElem?_nil, List.set_cons_zero, List.set_cons_succ, List.set_nil, Nat.reduceAdd, Nat.reduceSub, Nat.reduceEqDiff, ↓reduceIte, Bool.not_true, Bool.not_false, Bool.false_eq_true, D.frz, D.frzs, eq_int, ne_int, eq_bl, ne_bl, decide_true, decide_false, Option.bind_some, Option.map_some, wipeE, v_isN, v_notN, non_int, non_str, non_non, true_or, or_true, D.clean, D.cleans, D.ownss, D.owns, Bool.or_false, Bool.false_or, Bool.and_true, Bool.true_and, v_add, v_sub, v_lt, v_le, v_gt, v_ge, v_neg, v_lenL, v_lenT, v_lts, frz_tab t, A]
  | some i =>
    have A : s_column_of K ca [tabD hs rs, .str h] = .ok (.lst true (colD rs i)) := by rw [p_column_of t (by omega) h hk, q]; rfl
    have wx : ∀ d ∈ colD rs i, isW d := col_w t (List.getElem?_eq_some_iff.mp (idxS_at q).1).1
    cases q2 : idxS hs2 h2 with
    | none =>
      have B : s_column_of K ca [tabD hs2 rs2, .str h2] = .ex 1 := by rw [p_column_of t2 (by omega) h2 hk2, q2]
      unfold s_paired_rows r_paired_rows
      simp (disch := first | decide | omega | assumption) only [sz_le, sz_lt, v_mod, v_div, v_range, v_mul, ev_fn, ev_start, ev_seq, ev_nil, ev_nx, ev_rt, ev_bk, ev_ct, ev_ex, ev_ono, ev_onx, ev_ort, ev_oex, ev_set, ev_ret, ev_if, ev_expr, ev_raise, ev_c, ev_peek, ev_var, ev_mov, ev_op, ev_ix, ev_un, ev_isi, ev_callB, ev_call, ev_callF, ev_esn, ev_esc, ev_tup, ev_lst, ev_tof, ev_and, ev_or, ev_not, ev_yes, ev_eand, ev_eor, ev_eif, ev_chain, ev_sl, ev_pn, ev_ps, ev_lc, ev_asg, ev_gn, ev_gt, ev_gc, ev_gnil, ev_for, ev_while, ev_range, ev_iof, ev_ienum, ev_append, ev_tidx, ev_isc, ev_try, ev_add, ev_sub, re_bok, re_bex, re_bno, re_of, re_sok, re_sex, re_sno, List.map_cons, List.map_nil, List.length_cons, List.length_nil, List.replicate_succ, List.replicate_zero, List.cons_append, List.nil_append, List.getElem?_cons_zero, List.getElem?_cons_succ, List.getElem?_nil, List.set_cons_zero, List.set_cons_succ, List.set_nil, Nat.reduceAdd, Nat.reduceSub, Nat.reduceEqDiff, ↓reduceIte, Bool.not_true, Bool.not_false, Bool.false_eq_true, D.frz, D.frzs, eq_int, ne_int, eq_bl, ne_bl, decide_true, decide_false, Option.bind_some, Option.map_some, wipeE, v_isN, v_notN, non_int, non_str, non_non, true_or, or_true, D.clean, D.cleans, D.ownss, D.owns, Bool.or_false, Bool.false_or, Bool.and_true, Bool.true_and, v_add, v_sub, v_lt, v_le, v_gt, v_ge, v_neg, v_lenL, v_lenT, v_lts, frz_tab t, frz_tab t2, A, B, own_tab t, own_tab t2]
    | some j =>
      have B : s_column_of K ca [tabD hs2 rs2, .str h2] = .ok (.lst true (colD rs2 j)) := by rw [p_column_of t2 (by omega) h2 hk2, q2]; rfl
      have wy : ∀ d ∈ colD rs2 j, isW d := col_w t2 (List.getElem?_eq_some_iff.mp (idxS_at q2).1).1
      have lx : (colD rs i).length < 100 := by rw [col_len]; exact Nat.lt_of_le_of_lt t.few hm
      have ly : (colD rs2 j).length < 100 := by rw [col_len]; exact Nat.lt_of_le_of_lt t2.few hm2
      generalize hX : colD rs i = xs at *
      generalize hY : colD rs2 j = ys at *
      unfold s_paired_rows r_paired_rows
      simp (disch := first | decide | omega | assumption) only [sz_le, sz_lt, v_mod, v_div, v_range, v_mul, ev_fn, ev_start, ev_seq, ev_nil, ev_nx, ev_rt, ev_bk, ev_ct, ev_ex, ev_ono, ev_onx, ev_ort, ev_oex, ev_set, ev_ret, ev_if, ev_expr, ev_raise, ev_c, ev_peek, ev_var, ev_mov, ev_op, ev_ix, ev_un, ev_isi, ev_callB, ev_call, ev_callF, ev_esn, ev_esc, ev_tup, ev_lst, ev_tof, ev_and, ev_or, ev_not, ev_yes, ev_eand, ev_eor, ev_eif, ev_chain, ev_sl, ev_pn, ev_ps, ev_lc, ev_asg, ev_gn, ev_gt, ev_gc, ev_gnil, ev_for, ev_while, ev_range, ev_iof, ev_ienum, ev_append, ev_tidx, ev_isc, ev_try, ev_add, ev_sub, re_bok, re_bex, re_bno, re_of, re_sok, re_sex, re_sno, List.map_cons, List.map_nil, List.length_cons, List.length_nil, List.replicate_succ, List.replicate_zero, List.cons_append, List.nil_append, List.getElem?_cons_zero, List.getElem?_cons_succ, List.getElem?_nil, List.set_cons_zero, List.set_cons_succ, List.set_nil, Nat.reduceAdd, Nat.reduceSub, Nat.reduceEqDiff, ↓reduceIte, Bool.not_true, Bool.not_false, Bool.false_eq_true, D.frz, D.frzs, eq_int, ne_int, eq_bl, ne_bl, decide_true, decide_false, Option.bind_some, Option.map_some, wipeE, v_isN, v_notN, non_int, non_str, non_non, true_or, or_true, D.clean, D.cleans, D.ownss, D.owns, Bool.or_false, Bool.false_or, Bool.and_true, Bool.true_and, v_add, v_sub, v_lt, v_le, v_gt, v_ge, v_neg, v_lenL, v_lenT, v_lts, frz_tab t, frz_tab t2, A, B, own_tab t, own_tab t2, frzs_ws wx]
      generalize hT : pr1 meet ys 0 xs = T
      have hT2 : T.length < 100000 := by
        rw [← hT]
        have h1 := pr1_len meet ys 0 xs
        have h2 : xs.length * ys.length ≤ 100 * 100 := Nat.mul_le_mul (by omega) (by omega)
        omega
      have outer := forL_run (g := g_tup (g_cons (g_name 7) (g_cons (g_name 8) g_nil))) (b := s_for (i_enum (e_var 5)) (g_tup (g_cons (g_name 9) (g_cons (g_name 10) g_nil))) (s_if (t_and (t_of (e_op gNotN (e_peek 8) (e_c .non))) (t_and (t_of (e_op gNotN (e_peek 10) (e_c .non))) (t_of (e_call (s_same_worth K ca) (es_cons (e_peek 8) (es_cons (e_peek 10) es_nil)))))) (s_append 6 (e_tup (es_cons (e_var 7) (es_cons (e_var 9) es_nil)))) s_nil))
        (fun ds ρ => ∃ acc o o7 o8 o9 o10 k post, ds = enumD k post ∧ (∀ d ∈ post, isW d) ∧ ρ = [some (tabD hs rs), some (.str h), some (tabD hs2 rs2), some (.str h2), some (.lst false xs), some (.lst o ys), some (.lst true acc), o7, o8, o9, o10] ∧ acc ++ pr1 meet ys k post = T)
        (fun d ds ρ ⟨acc, o, o7, o8, o9, o10, k, post, e1, e2, e3, e4⟩ => by
          cases post with
          | nil => cases e1
          | cons x post =>
            unfold enumD at e1
            injection e1 with e5 e6
            subst e5 e6 e3
            have wx' : isW x := e2 x List.mem_cons_self
            have e4' : (acc ++ pr2 meet k x 0 ys) ++ pr1 meet ys (k + 1) post = T := by
              rw [← e4]
              conv => rhs; unfold pr1
              rw [List.append_assoc]
            have inner := forL_run (g := g_tup (g_cons (g_name 9) (g_cons (g_name 10) g_nil))) (b := s_if (t_and (t_of (e_op gNotN (e_peek 8) (e_c .non))) (t_and (t_of (e_op gNotN (e_peek 10) (e_c .non))) (t_of (e_call (s_same_worth K ca) (es_cons (e_peek 8) (es_cons (e_peek 10) es_nil)))))) (s_append 6 (e_tup (es_cons (e_var 7) (es_cons (e_var 9) es_nil)))) s_nil)
              (fun ds ρ => ∃ acc2 o9 o10 j post2, ds = enumD j post2 ∧ (∀ d ∈ post2, isW d) ∧ ρ = [some (tabD hs rs), some (.str h), some (tabD hs2 rs2), some (.str h2), some (.lst false xs), some (.lst false ys), some (.lst true acc2), some (.int (k : Nat)), some x, o9, o10] ∧ acc2 ++ pr2 meet k x j post2 = acc ++ pr2 meet k x 0 ys)
              (fun d ds ρ ⟨acc2, o9, o10, j, post2, f1, f2, f3, f4⟩ => by
                cases post2 with
                | nil => cases f1
                | cons y post2 =>
                  unfold enumD at f1
                  injection f1 with f5 f6
                  subst f5 f6 f3
                  have wy' : isW y := f2 y List.mem_cons_self
                  have hacc : acc2.length < sizeLine := sz_lt (by
                    have h1 := congrArg List.length f4
                    have h2 := congrArg List.length e4'
                    simp only [List.length_append] at h1 h2
                    omega)
                  refine ⟨[some (tabD hs rs), some (.str h), some (tabD hs2 rs2), some (.str h2), some (.lst false xs), some (.lst false ys), some (.lst true acc2), some (.int (k : Nat)), some x, some (.int (j : Nat)), some y],
                    [some (tabD hs rs), some (.str h), some (tabD hs2 rs2), some (.str h2), some (.lst false xs), some (.lst false ys), some (.lst true (if meet x y = true then acc2 ++ [.tup [.int (k : Nat), .int (j : Nat)]] else acc2)), some (.int (k : Nat)), some x, some (.int (j : Nat)), some y], by simp (disch := first | decide | omega | assumption) only [sz_le, sz_lt, v_mod, v_div, v_range, v_mul, ev_fn, ev_start, ev_seq, ev_nil, ev_nx, ev_rt, ev_bk, ev_ct, ev_ex, ev_ono, ev_onx, ev_ort, ev_oex, ev_set, ev_ret, ev_if, ev_expr, ev_raise, ev_c, ev_peek, ev_var, ev_mov, ev_op, ev_ix, ev_un, ev_isi, ev_callB, ev_call, ev_callF, ev_esn, ev_esc, ev_tup, ev_lst, ev_tof, ev_and, ev_or, ev_not, ev_yes, ev_eand, ev_eor, ev_eif, ev_chain, ev_sl, ev_pn, ev_ps, ev_lc, ev_asg, ev_gn, ev_gt, ev_gc, ev_gnil, ev_for, ev_while, ev_range, ev_iof, ev_ienum, ev_append, ev_tidx, ev_isc, ev_try, ev_add, ev_sub, re_bok, re_bex, re_bno, re_of, re_sok, re_sex, re_sno, List.map_cons, List.map_nil, List.length_cons, List.length_nil, List.replicate_succ, List.replicate_zero, List.cons_append, List.nil_append, List.getElem?_cons_zero, List.getElem?_cons_succ, List.getElem?_nil, List.set_cons_zero, List.set_cons_succ, List.set_nil, Nat.reduceAdd, Nat.reduceSub, Nat.reduceEqDiff, ↓reduceIte, Bool.not_true, Bool.not_false, Bool.false_eq_true, D.frz, D.frzs, eq_int, ne_int, eq_bl, ne_bl, decide_true, decide_false, Option.bind_some, Option.map_some, wipeE, v_isN, v_notN, non_int, non_str, non_non, true_or, or_true, D.clean, D.cleans, D.ownss, D.owns, Bool.or_false, Bool.false_or, Bool.and_true, Bool.true_and, v_add, v_sub, v_lt, v_le, v_gt, v_ge, v_neg, v_lenL, v_lenT, v_lts, own_w wy'], .inl ?_, _, _, _, j + 1, post2, rfl, fun d hd => f2 d (List.mem_cons_of_mem _ hd), rfl, ?_⟩
                  · cases ny : y.isNon with
                    | true =>
                      rw [meet_non ny]
                      cases nx : x.isNon <;> simp (disch := first | decide | omega | assumption) only [sz_le, sz_lt, v_mod, v_div, v_range, v_mul, ev_fn, ev_start, ev_seq, ev_nil, ev_nx, ev_rt, ev_bk, ev_ct, ev_ex, ev_ono, ev_onx, ev_ort, ev_oex, ev_set, ev_ret, ev_if, ev_expr, ev_raise, ev_c, ev_peek, ev_var, ev_mov, ev_op, ev_ix, ev_un, ev_isi, ev_callB, ev_call, ev_callF, ev_esn, ev_esc, ev_tup, ev_lst, ev_tof, ev_and, ev_or, ev_not, ev_yes, ev_eand, ev_eor, ev_eif, ev_chain, ev_sl, ev_pn, ev_ps, ev_lc, ev_asg, ev_gn, ev_gt, ev_gc, ev_gnil, ev_for, ev_while, ev_range, ev_iof, ev_ienum, ev_append, ev_tidx, ev_isc, ev_try, ev_add, ev_sub, re_bok, re_bex, re_bno, re_of, re_sok, re_sex, re_sno, List.map_cons, List.map_nil, List.length_cons, List.length_nil, List.replicate_succ, List.replicate_zero, List.cons_append, List.nil_append, List.getElem?_cons_zero, List.getElem?_cons_succ, List.getElem?_nil, List.set_cons_zero, List.set_cons_succ, List.set_nil, Nat.reduceAdd, Nat.reduceSub, Nat.reduceEqDiff, ↓reduceIte, Bool.not_true, Bool.not_false, Bool.false_eq_true, D.frz, D.frzs, eq_int, ne_int, eq_bl, ne_bl, decide_true, decide_false, Option.bind_some, Option.map_some, wipeE, v_isN, v_notN, non_int, non_str, non_non, true_or, or_true, D.clean, D.cleans, D.ownss, D.owns, Bool.or_false, Bool.false_or, Bool.and_true, Bool.true_and, v_add, v_sub, v_lt, v_le, v_gt, v_ge, v_neg, v_lenL, v_lenT, v_lts, nx, ny, Bool.false_and]
                    | false =>
                      unfold meet
                      cases nx : x.isNon with
                      | true => simp (disch := first | decide | omega | assumption) only [sz_le, sz_lt, v_mod, v_div, v_range, v_mul, ev_fn, ev_start, ev_seq, ev_nil, ev_nx, ev_rt, ev_bk, ev_ct, ev_ex, ev_ono, ev_onx, ev_ort, ev_oex, ev_set, ev_ret, ev_if, ev_expr, ev_raise, ev_c, ev_peek, ev_var, ev_mov, ev_op, ev_ix, ev_un, ev_isi, ev_callB, ev_call, ev_callF, ev_esn, ev_esc, ev_tup, ev_lst, ev_tof, ev_and, ev_or, ev_not, ev_yes, ev_eand, ev_eor, ev_eif, ev_chain, ev_sl, ev_pn, ev_ps, ev_lc, ev_asg, ev_gn, ev_gt, ev_gc, ev_gnil, ev_for, ev_while, ev_range, ev_iof, ev_ienum, ev_append, ev_tidx, ev_isc, ev_try, ev_add, ev_sub, re_bok, re_bex, re_bno, re_of, re_sok, re_sex, re_sno, List.map_cons, List.map_nil, List.length_cons, List.length_nil, List.replicate_succ, List.replicate_zero, List.cons_append, List.nil_append, List.getElem?_cons_zero, List.getElem?_cons_succ, List.getElem?_nil, List.set_cons_zero, List.set_cons_succ, List.set_nil, Nat.reduceAdd, Nat.reduceSub, Nat.reduceEqDiff, ↓reduceIte, Bool.not_true, Bool.not_false, Bool.false_eq_true, D.frz, D.frzs, eq_int, ne_int, eq_bl, ne_bl, decide_true, decide_false, Option.bind_some, Option.map_some, wipeE, v_isN, v_notN, non_int, non_str, non_non, true_or, or_true, D.clean, D.cleans, D.ownss, D.owns, Bool.or_false, Bool.false_or, Bool.and_true, Bool.true_and, v_add, v_sub, v_lt, v_le, v_gt, v_ge, v_neg, v_lenL, v_lenT, v_lts, nx, Bool.false_and]
                      | false =>
                        simp (disch := first | decide | omega | assumption) only [sz_le, sz_lt, v_mod, v_div, v_range, v_mul, ev_fn, ev_start, ev_seq, ev_nil, ev_nx, ev_rt, ev_bk, ev_ct, ev_ex, ev_ono, ev_onx, ev_ort, ev_oex, ev_set, ev_ret, ev_if, ev_expr, ev_raise, ev_c, ev_peek, ev_var, ev_mov, ev_op, ev_ix, ev_un, ev_isi, ev_callB, ev_call, ev_callF, ev_esn, ev_esc, ev_tup, ev_lst, ev_tof, ev_and, ev_or, ev_not, ev_yes, ev_eand, ev_eor, ev_eif, ev_chain, ev_sl, ev_pn, ev_ps, ev_lc, ev_asg, ev_gn, ev_gt, ev_gc, ev_gnil, ev_for, ev_while, ev_range, ev_iof, ev_ienum, ev_append, ev_tidx, ev_isc, ev_try, ev_add, ev_sub, re_bok, re_bex, re_bno, re_of, re_sok, re_sex, re_sno, List.map_cons, List.map_nil, List.length_cons, List.length_nil, List.replicate_succ, List.replicate_zero, List.cons_append, List.nil_append, List.getElem?_cons_zero, List.getElem?_cons_succ, List.getElem?_nil, List.set_cons_zero, List.set_cons_succ, List.set_nil, Nat.reduceAdd, Nat.reduceSub, Nat.reduceEqDiff, ↓reduceIte, Bool.not_true, Bool.not_false, Bool.false_eq_true, D.frz, D.frzs, eq_int, ne_int, eq_bl, ne_bl, decide_true, decide_false, Option.bind_some, Option.map_some, wipeE, v_isN, v_notN, non_int, non_str, non_non, true_or, or_true, D.clean, D.cleans, D.ownss, D.owns, Bool.or_false, Bool.false_or, Bool.and_true, Bool.true_and, v_add, v_sub, v_lt, v_le, v_gt, v_ge, v_neg, v_lenL, v_lenT, v_lts, nx, ny, frz_w wx', frz_w wy', p_same wx' wy' nx ny, ownL]
                        cases weq x y <;> simp (disch := first | decide | omega | assumption) only [sz_le, sz_lt, v_mod, v_div, v_range, v_mul, ev_fn, ev_start, ev_seq, ev_nil, ev_nx, ev_rt, ev_bk, ev_ct, ev_ex, ev_ono, ev_onx, ev_ort, ev_oex, ev_set, ev_ret, ev_if, ev_expr, ev_raise, ev_c, ev_peek, ev_var, ev_mov, ev_op, ev_ix, ev_un, ev_isi, ev_callB, ev_call, ev_callF, ev_esn, ev_esc, ev_tup, ev_lst, ev_tof, ev_and, ev_or, ev_not, ev_yes, ev_eand, ev_eor, ev_eif, ev_chain, ev_sl, ev_pn, ev_ps, ev_lc, ev_asg, ev_gn, ev_gt, ev_gc, ev_gnil, ev_for, ev_while, ev_range, ev_iof, ev_ienum, ev_append, ev_tidx, ev_isc, ev_try, ev_add, ev_sub, re_bok, re_bex, re_bno, re_of, re_sok, re_sex, re_sno, List.map_cons, List.map_nil, List.length_cons, List.length_nil, List.replicate_succ, List.replicate_zero, List.cons_append, List.nil_append, List.getElem?_cons_zero, List.getElem?_cons_succ, List.getElem?_nil, List.set_cons_zero, List.set_cons_succ, List.set_nil, Nat.reduceAdd, Nat.reduceSub, Nat.reduceEqDiff, ↓reduceIte, Bool.not_true, Bool.not_false, Bool.false_eq_true, D.frz, D.frzs, eq_int, ne_int, eq_bl, ne_bl, decide_true, decide_false, Option.bind_some, Option.map_some, wipeE, v_isN, v_notN, non_int, non_str, non_non, true_or, or_true, D.clean, D.cleans, D.ownss, D.owns, Bool.or_false, Bool.false_or, Bool.and_true, Bool.true_and, v_add, v_sub, v_lt, v_le, v_gt, v_ge, v_neg, v_lenL, v_lenT, v_lts, ownL, hacc]
                  · rw [← f4]
                    conv => rhs; unfold pr2
                    by_cases h : meet x y = true
                    · rw [if_pos h, if_pos h, List.append_assoc]; rfl
                    · rw [if_neg h, if_neg h])
              (ds := enumD 0 ys) (ρ := [some (tabD hs rs), some (.str h), some (tabD hs2 rs2), some (.str h2), some (.lst false xs), some (.lst false ys), some (.lst true acc), some (.int (k : Nat)), some x, o9, o10]) ⟨acc, o9, o10, 0, ys, rfl, wy, rfl, rfl⟩
            obtain ⟨ρ', h1, acc2, o9', o10', j, post2, f1, f2, f3, f4⟩ := inner
            have hp := enum_nil f1
            subst hp f3
            have f4' : acc2 = acc ++ pr2 meet k x 0 ys := by
              have z : acc2 ++ [] = acc ++ pr2 meet k x 0 ys := f4
              rwa [List.append_nil] at z
            subst f4'
            refine ⟨[some (tabD hs rs), some (.str h), some (tabD hs2 rs2), some (.str h2), some (.lst false xs), some (.lst o ys), some (.lst true acc), some (.int (k : Nat)), some x, o9, o10], _, by simp (disch := first | decide | omega | assumption) only [sz_le, sz_lt, v_mod, v_div, v_range, v_mul, ev_fn, ev_start, ev_seq, ev_nil, ev_nx, ev_rt, ev_bk, ev_ct, ev_ex, ev_ono, ev_onx, ev_ort, ev_oex, ev_set, ev_ret, ev_if, ev_expr, ev_raise, ev_c, ev_peek, ev_var, ev_mov, ev_op, ev_ix, ev_un, ev_isi, ev_callB, ev_call, ev_callF, ev_esn, ev_esc, ev_tup, ev_lst, ev_tof, ev_and, ev_or, ev_not, ev_yes, ev_eand, ev_eor, ev_eif, ev_chain, ev_sl, ev_pn, ev_ps, ev_lc, ev_asg, ev_gn, ev_gt, ev_gc, ev_gnil, ev_for, ev_while, ev_range, ev_iof, ev_ienum, ev_append, ev_tidx, ev_isc, ev_try, ev_add, ev_sub, re_bok, re_bex, re_bno, re_of, re_sok, re_sex, re_sno, List.map_cons, List.map_nil, List.length_cons, List.length_nil, List.replicate_succ, List.replicate_zero, List.cons_append, List.nil_append, List.getElem?_cons_zero, List.getElem?_cons_succ, List.getElem?_nil, List.set_cons_zero, List.set_cons_succ, List.set_nil, Nat.reduceAdd, Nat.reduceSub, Nat.reduceEqDiff, ↓reduceIte, Bool.not_true, Bool.not_false, Bool.false_eq_true, D.frz, D.frzs, eq_int, ne_int, eq_bl, ne_bl, decide_true, decide_false, Option.bind_some, Option.map_some, wipeE, v_isN, v_notN, non_int, non_str, non_non, true_or, or_true, D.clean, D.cleans, D.ownss, D.owns, Bool.or_false, Bool.false_or, Bool.and_true, Bool.true_and, v_add, v_sub, v_lt, v_le, v_gt, v_ge, v_neg, v_lenL, v_lenT, v_lts, own_w wx'], .inl (?_ : _ = RO.nx [some (tabD hs rs), some (.str h), some (tabD hs2 rs2), some (.str h2), some (.lst false xs), some (.lst false ys), some (.lst true (acc ++ pr2 meet k x 0 ys)), some (.int (k : Nat)), some x, o9', o10']), _, _, _, _, _, _, k + 1, post, rfl, fun d hd => e2 d (List.mem_cons_of_mem _ hd), rfl, e4'⟩
            simp (disch := first | decide | omega | assumption) only [sz_le, sz_lt, v_mod, v_div, v_range, v_mul, ev_fn, ev_start, ev_seq, ev_nil, ev_nx, ev_rt, ev_bk, ev_ct, ev_ex, ev_ono, ev_onx, ev_ort, ev_oex, ev_set, ev_ret, ev_if, ev_expr, ev_raise, ev_c, ev_peek, ev_var, ev_mov, ev_op, ev_ix, ev_un, ev_isi, ev_callB, ev_call, ev_callF, ev_esn, ev_esc, ev_tup, ev_lst, ev_tof, ev_and, ev_or, ev_not, ev_yes, ev_eand, ev_eor, ev_eif, ev_chain, ev_sl, ev_pn, ev_ps, ev_lc, ev_asg, ev_gn, ev_gt, ev_gc, ev_gnil, ev_for, ev_while, ev_range, ev_iof, ev_ienum, ev_append, ev_tidx, ev_isc, ev_try, ev_add, ev_sub, re_bok, re_bex, re_bno, re_of, re_sok, re_sex, re_sno, List.map_cons, List.map_nil, List.length_cons, List.length_nil, List.replicate_succ, List.replicate_zero, List.cons_append, List.nil_append, List.getElem?_cons_zero, List.getElem?_cons_succ, List.getElem?_nil, List.set_cons_zero, List.set_cons_succ, List.set_nil, Nat.reduceAdd, Nat.reduceSub, Nat.reduceEqDiff, ↓reduceIte, Bool.not_true, Bool.not_false, Bool.false_eq_true, D.frz, D.frzs, eq_int, ne_int, eq_bl, ne_bl, decide_true, decide_false, Option.bind_some, Option.map_some, wipeE, v_isN, v_notN, non_int, non_str, non_non, true_or, or_true, D.clean, D.cleans, D.ownss, D.owns, Bool.or_false, Bool.false_or, Bool.and_true, Bool.true_and, v_add, v_sub, v_lt, v_le, v_gt, v_ge, v_neg, v_lenL, v_lenT, v_lts, frzs_ws wy]
            exact h1)
        (ds := enumD 0 xs) (ρ := [some (tabD hs rs), some (.str h), some (tabD hs2 rs2), some (.str h2), some (.lst false xs), some (.lst true ys), some (.lst true []), none, none, none, none]) ⟨[], true, none, none, none, none, 0, xs, rfl, wx, rfl, hT⟩
      obtain ⟨ρ', h1, acc, o, o7, o8, o9, o10, k, post, e1, e2, e3, e4⟩ := outer
      have hp := enum_nil e1
      subst hp e3
      rw [h1]
      have : acc = T := by
        have z : acc ++ [] = T := e4
        rwa [List.append_nil] at z
      subst this
      simp (disch := first | decide | omega | assumption) only [sz_le, sz_lt, v_mod, v_div, v_range, v_mul, ev_fn, ev_start, ev_seq, ev_nil, ev_nx, ev_rt, ev_bk, ev_ct, ev_ex, ev_ono, ev_onx, ev_ort, ev_oex, ev_set, ev_ret, ev_if, ev_expr, ev_raise, ev_c, ev_peek, ev_var, ev_mov, ev_op, ev_ix, ev_un, ev_isi, ev_callB, ev_call, ev_callF, ev_esn, ev_esc, ev_tup, ev_lst, ev_tof, ev_and, ev_or, ev_not, ev_yes, ev_eand, ev_eor, ev_eif, ev_chain, ev_sl, ev_pn, ev_ps, ev_lc, ev_asg, ev_gn, ev_gt, ev_gc, ev_gnil, ev_for, ev_while, ev_range, ev_iof, ev_ienum, ev_append, ev_tidx, ev_isc, ev_try, ev_add, ev_sub, re_bok, re_bex, re_bno, re_of, re_sok, re_sex, re_sno, List.map_cons, List.map_nil, List.length_cons, List.length_nil, List.replicate_succ, List.replicate_zero, List.cons_append, List.nil_append, List.getElem?_cons_zero, List.getElem?_cons_succ, List.getElem?_nil, List.set_cons_zero, List.set_cons_succ, List.set_nil, Nat.reduceAdd, Nat.reduceSub, Nat.reduceEqDiff, ↓reduceIte, Bool.not_true, Bool.not_false, Bool.false_eq_true, D.frz, D.frzs, eq_int, ne_int, eq_bl, ne_bl, decide_true, decide_false, Option.bind_some, Option.map_some, wipeE, v_isN, v_notN, non_int, non_str, non_non, true_or, or_true, D.clean, D.cleans, D.ownss, D.owns, Bool.or_false, Bool.false_or, Bool.and_true, Bool.true_and, v_add, v_sub, v_lt, v_le, v_gt, v_ge, v_neg, v_lenL, v_lenT, v_lts, ]
      show _ = RF.ok (.lst true (pr1 meet (colD rs2 j) 0 (colD rs i)))
      rw [hX, hY, hT]
end
end Gk72

namespace Gk72
open PySem PySem.Spec OL
section
variable {K : PySem.W.Frag} {mg : Str → Option Value} {ca fa : Nat → Addr} {fd : Nat → FuncData}
/-- what a refused call comes to -/
theorem isC_exn (T : Txt K mg ca fa fd) : gIsC K (ca 1) (.exn (ca 1)) = some (.bl true) := by
  have e : PySem.W.kitOne K (.ref (ca 1)) (.ref (ca 1)) = some true := cls_kit T.o_NoColumn T.s_NoColumn_NoColumn (.inl rfl)
  unfold gIsC
  simp only [if_pos T.o_NoColumn.e, e, Option.map_some]
theorem exm_1_0 (T : Txt K mg ca fa fd) : PySem.W.exmOne K (.ref (ca 1)) (.ref (ca 0)) = some true := cls_exm (x := "x") T.o_SheetError T.s_NoColumn_SheetError
theorem idx_none {hs : List Str} {h : Str} (k : h ∉ hs) : idxS hs h = none := by
  cases q : idxS hs h with
  | none => rfl
  | some j => exact absurd (List.mem_of_getElem? (idxS_at q).1) k
theorem p_refused (T : Txt K mg ca fa fd) {most most2 : Nat} {hs hs2 : List Str} {rs rs2 : List (List D)} (t : Tab most hs rs) (t2 : Tab most2 hs2 rs2) (hm : most < 100) (hm2 : most2 < 100) (way : Nat) (hw : way < 3) (h h2 : Str) (hk : PyData.strOk h = true) (hk2 : PyData.strOk h2 = true)
    (hno : h ∉ hs ∨ (way = 2 ∧ h2 ∉ hs2)) : s__law_refused K ca [.int (way : Nat), tabD hs rs, .str h, tabD hs2 rs2, .str h2] = .ok (.bl true) := by
  unfold s__law_refused r__law_refused
  have f0 : idxS hs h = none → s_column_of K ca [tabD hs rs, .str h] = .ex 1 := fun e => by rw [p_column_of t (by omega) h hk, e]
  have f1 : idxS hs h = none → s_fitting K ca [tabD hs rs, .str h, .str (Str.ofString "="), .int 1] = .ex 1 := fun e => by
    have := p_fitting (K := K) (ca := ca) t (by omega) h hk 0 (by decide) (k := .int 1) trivial rfl
    rw [e] at this
    exact this
  rcases (show way = 0 ∨ way = 1 ∨ way = 2 by omega) with rfl | rfl | rfl
  · have e := idx_none (hno.elim id fun z => absurd z.1 (by decide))
    simp (disch := first | decide | omega | assumption) only [sz_le, sz_lt, v_mod, v_div, v_range, v_mul, ev_fn, ev_start, ev_seq, ev_nil, ev_nx, ev_rt, ev_bk, ev_ct, ev_ex, ev_ono, ev_onx, ev_ort, ev_oex, ev_set, ev_ret, ev_if, ev_expr, ev_raise, ev_c, ev_peek, ev_var, ev_mov, ev_op, ev_ix, ev_un, ev_isi, ev_callB, ev_call, ev_callF, ev_esn, ev_esc, ev_tup, ev_lst, ev_tof, ev_and, ev_or, ev_not, ev_yes, ev_eand, ev_eor, ev_eif, ev_chain, ev_sl, ev_pn, ev_ps, ev_lc, ev_asg, ev_gn, ev_gt, ev_gc, ev_gnil, ev_for, ev_while, ev_range, ev_iof, ev_ienum, ev_append, ev_tidx, ev_isc, ev_try, ev_add, ev_sub, re_bok, re_bex, re_bno, re_of, re_sok, re_sex, re_sno, List.map_cons, List.map_nil, List.length_cons, List.length_nil, List.replicate_succ, List.replicate_zero, List.cons_append, List.nil_append, List.getElem?_cons_zero, List.getElem?_cons_succ, List.getElem?_nil, List.set_cons_zero, List.set_cons_succ, List.set_nil, Nat.reduceAdd, Nat.reduceSub, Nat.reduceEqDiff, ↓reduceIte, Bool.not_true, Bool.not_false, Bool.false_eq_true, D.frz, D.frzs, eq_int, ne_int, eq_bl, ne_bl, decide_true, decide_false, Option.bind_some, Option.map_some, wipeE, v_isN, v_notN, non_int, non_str, non_non, true_or, or_true, D.clean, D.cleans, D.ownss, D.owns, Bool.or_false, Bool.false_or, Bool.and_true, Bool.true_and, v_add, v_sub, v_lt, v_le, v_gt, v_ge, v_neg, v_lenL, v_lenT, v_lts, Int.cast_ofNat_Int, frz_tab t, f0 e, k_cons, k_as, exm_1_0 T, unI, ev_isc, isC_exn T]
  · have e := idx_none (hno.elim id fun z => absurd z.1 (by decide))
    simp (disch := first | decide | omega | assumption) only [sz_le, sz_lt, v_mod, v_div, v_range, v_mul, ev_fn, ev_start, ev_seq, ev_nil, ev_nx, ev_rt, ev_bk, ev_ct, ev_ex, ev_ono, ev_onx, ev_ort, ev_oex, ev_set, ev_ret, ev_if, ev_expr, ev_raise, ev_c, ev_peek, ev_var, ev_mov, ev_op, ev_ix, ev_un, ev_isi, ev_callB, ev_call, ev_callF, ev_esn, ev_esc, ev_tup, ev_lst, ev_tof, ev_and, ev_or, ev_not, ev_yes, ev_eand, ev_eor, ev_eif, ev_chain, ev_sl, ev_pn, ev_ps, ev_lc, ev_asg, ev_gn, ev_gt, ev_gc, ev_gnil, ev_for, ev_while, ev_range, ev_iof, ev_ienum, ev_append, ev_tidx, ev_isc, ev_try, ev_add, ev_sub, re_bok, re_bex, re_bno, re_of, re_sok, re_sex, re_sno, List.map_cons, List.map_nil, List.length_cons, List.length_nil, List.replicate_succ, List.replicate_zero, List.cons_append, List.nil_append, List.getElem?_cons_zero, List.getElem?_cons_succ, List.getElem?_nil, List.set_cons_zero, List.set_cons_succ, List.set_nil, Nat.reduceAdd, Nat.reduceSub, Nat.reduceEqDiff, ↓reduceIte, Bool.not_true, Bool.not_false, Bool.false_eq_true, D.frz, D.frzs, eq_int, ne_int, eq_bl, ne_bl, decide_true, decide_false, Option.bind_some, Option.map_some, wipeE, v_isN, v_notN, non_int, non_str, non_non, true_or, or_true, D.clean, D.cleans, D.ownss, D.owns, Bool.or_false, Bool.false_or, Bool.and_true, Bool.true_and, v_add, v_sub, v_lt, v_le, v_gt, v_ge, v_neg, v_lenL, v_lenT, v_lts, Int.cast_ofNat_Int, frz_tab t, f1 e, k_cons, k_as, exm_1_0 T, unI, ev_isc, isC_exn T, show ((1 : Int) = 0) = False from by decide]
  · have e : s_paired_rows K ca [tabD hs rs, .str h, tabD hs2 rs2, .str h2] = .ex 1 := by
      rw [p_paired_rows t t2 hm hm2 h h2 hk hk2]
      rcases hno with z | z
      · rw [idx_none z]
      · rw [idx_none z.2]
        cases idxS hs h <;> rfl
    simp (disch := first | decide | omega | assumption) only [sz_le, sz_lt, v_mod, v_div, v_range, v_mul, ev_fn, ev_start, ev_seq, ev_nil, ev_nx, ev_rt, ev_bk, ev_ct, ev_ex, ev_ono, ev_onx, ev_ort, ev_oex, ev_set, ev_ret, ev_if, ev_expr, ev_raise, ev_c, ev_peek, ev_var, ev_mov, ev_op, ev_ix, ev_un, ev_isi, ev_callB, ev_call, ev_callF, ev_esn, ev_esc, ev_tup, ev_lst, ev_tof, ev_and, ev_or, ev_not, ev_yes, ev_eand, ev_eor, ev_eif, ev_chain, ev_sl, ev_pn, ev_ps, ev_lc, ev_asg, ev_gn, ev_gt, ev_gc, ev_gnil, ev_for, ev_while, ev_range, ev_iof, ev_ienum, ev_append, ev_tidx, ev_isc, ev_try, ev_add, ev_sub, re_bok, re_bex, re_bno, re_of, re_sok, re_sex, re_sno, List.map_cons, List.map_nil, List.length_cons, List.length_nil, List.replicate_succ, List.replicate_zero, List.cons_append, List.nil_append, List.getElem?_cons_zero, List.getElem?_cons_succ, List.getElem?_nil, List.set_cons_zero, List.set_cons_succ, List.set_nil, Nat.reduceAdd, Nat.reduceSub, Nat.reduceEqDiff, ↓reduceIte, Bool.not_true, Bool.not_false, Bool.false_eq_true, D.frz, D.frzs, eq_int, ne_int, eq_bl, ne_bl, decide_true, decide_false, Option.bind_some, Option.map_some, wipeE, v_isN, v_notN, non_int, non_str, non_non, true_or, or_true, D.clean, D.cleans, D.ownss, D.owns, Bool.or_false, Bool.false_or, Bool.and_true, Bool.true_and, v_add, v_sub, v_lt, v_le, v_gt, v_ge, v_neg, v_lenL, v_lenT, v_lts, Int.cast_ofNat_Int, frz_tab t, frz_tab t2, e, k_cons, k_as, exm_1_0 T, unI, ev_isc, isC_exn T, show ((2 : Int) = 0) = False from by decide, show ((2 : Int) = 1) = False from by decide]
end
end Gk72

namespace Gk72
open PySem PySem.Spec OL
section
variable {K : PySem.W.Frag} {mg : Str → Option Value} {ca fa : Nat → Addr} {fd : Nat → FuncData}
theorem st_tab {most : Nat} {hs : List Str} {rs : List (List D)} (t : Tab most hs rs) : isST (.tup (hs.map .str)) = true := by
  cases hs with
  | nil => exact absurd t.ne (Nat.lt_irrefl 0)
  | cons x xs => rfl
noncomputable def lp2 (K : PySem.W.Frag) (ca : Nat → Addr) : SS := (s_seq (s_set 5 (e_call (s__law_pairs K ca) (es_cons (e_peek 3) (es_cons (e_lc [7] (i_of (e_ix (e_peek 1) (e_c (.int 1)))) (g_name 7) (t_yes) (e_ix (e_peek 7) (e_tidx (e_ix (e_peek 1) (e_c (.int 0))) (e_peek 4)))) (es_nil))))) (s_seq (s_set 6 (e_call (s_paired_rows K ca) (es_cons (e_peek 0) (es_cons (e_peek 2) (es_cons (e_peek 1) (es_cons (e_peek 4) (es_nil))))))) (s_seq (s_if (t_or (t_not (t_of (e_isi "list" (e_peek 6)))) (t_of (e_op gNe (e_peek 6) (e_peek 5)))) (s_ret (e_c (.bl false))) (s_nil)) (s_seq (s_append 6 (e_tup (es_cons (e_c (.int 0)) (es_cons (e_c (.int 0)) (es_nil))))) (s_if (t_of (e_op gNe (e_call (s_paired_rows K ca) (es_cons (e_peek 0) (es_cons (e_peek 2) (es_cons (e_peek 1) (es_cons (e_peek 4) (es_nil)))))) (e_peek 5))) (s_ret (e_c (.bl false))) (s_nil))))))
noncomputable def lp1 (K : PySem.W.Frag) (ca : Nat → Addr) : SS := s_seq (s_asg (g_name 3) (e_lc [7] (i_of (e_ix (e_peek 0) (e_c (.int 1)))) (g_name 7) (t_yes) (e_ix (e_peek 7) (e_tidx (e_ix (e_peek 0) (e_c (.int 0))) (e_peek 2))))) (s_seq (s_for (i_of (e_ix (e_peek 1) (e_c (.int 0)))) (g_name 4) (lp2 K ca)) (s_if (t_or (t_not (t_of (e_call (s__law_refused K ca) (es_cons (e_c (.int 2)) (es_cons (e_peek 0) (es_cons (e_peek 2) (es_cons (e_peek 1) (es_cons (e_c (.str "z")) (es_nil))))))))) (t_not (t_of (e_call (s__law_refused K ca) (es_cons (e_c (.int 2)) (es_cons (e_peek 0) (es_cons (e_c (.str "z")) (es_cons (e_peek 1) (es_cons (e_ix (e_ix (e_peek 1) (e_c (.int 0))) (e_c (.int 0))) (es_nil)))))))))) (s_ret (e_c (.bl false))) (s_nil)))
theorem p_law_paired (T : Txt K mg ca fa fd) {most most2 : Nat} {hs hs2 : List Str} {rs rs2 : List (List D)} (t : Tab most hs rs) (t2 : Tab most2 hs2 rs2) (hm : most < 100) (hm2 : most2 < 100) : s__law_paired K ca [tabD hs rs, tabD hs2 rs2] = .ok (.bl true) := by
  have o1 := own_strs hs
  have o2 := own_rows t
  have o3 := own_strs hs2
  have o4 := own_rows t2
  have z1 : Str.ofString "z" ∉ hs := not_head t (by decide +kernel)
  have z2 : Str.ofString "z" ∉ hs2 := not_head t2 (by decide +kernel)
  have kz : PyData.strOk (Str.ofString "z") = true := by decide +kernel
  have kzz : PyData.strOk (Str.ofString "zz") = true := by decide +kernel
  have fin := p_refused T t t2 hm hm2 2 (by decide) (Str.ofString "z") (Str.ofString "zz") kz kzz (.inl z1)
  rw [Int.cast_ofNat_Int] at fin
  unfold s__law_paired r__law_paired
  simp (disch := first | decide | omega | assumption) only [sz_le, sz_lt, v_mod, v_div, v_range, v_mul, ev_fn, ev_start, ev_seq, ev_nil, ev_nx, ev_rt, ev_bk, ev_ct, ev_ex, ev_ono, ev_onx, ev_ort, ev_oex, ev_set, ev_ret, ev_if, ev_expr, ev_raise, ev_c, ev_peek, ev_var, ev_mov, ev_op, ev_ix, ev_un, ev_isi, ev_callB, ev_call, ev_callF, ev_esn, ev_esc, ev_tup, ev_lst, ev_tof, ev_and, ev_or, ev_not, ev_yes, ev_eand, ev_eor, ev_eif, ev_chain, ev_sl, ev_pn, ev_ps, ev_lc, ev_asg, ev_gn, ev_gt, ev_gc, ev_gnil, ev_for, ev_while, ev_range, ev_iof, ev_ienum, ev_append, ev_tidx, ev_isc, ev_try, ev_add, ev_sub, re_bok, re_bex, re_bno, re_of, re_sok, re_sex, re_sno, List.map_cons, List.map_nil, List.length_cons, List.length_nil, List.replicate_succ, List.replicate_zero, List.cons_append, List.nil_append, List.getElem?_cons_zero, List.getElem?_cons_succ, List.getElem?_nil, List.set_cons_zero, List.set_cons_succ, List.set_nil, Nat.reduceAdd, Nat.reduceSub, Nat.reduceEqDiff, ↓reduceIte, Bool.not_true, Bool.not_false, Bool.false_eq_true, D.frz, D.frzs, eq_int, ne_int, eq_bl, ne_bl, decide_true, decide_false, Option.bind_some, Option.map_some, wipeE, v_isN, v_notN, non_int, non_str, non_non, true_or, or_true, D.clean, D.cleans, D.ownss, D.owns, Bool.or_false, Bool.false_or, Bool.and_true, Bool.true_and, v_add, v_sub, v_lt, v_le, v_gt, v_ge, v_neg, v_lenL, v_lenT, v_lts, tabD, v_ix0 (show (D.tup (hs.map .str)).owns = false from o1), frzs_none _ o1]
  obtain ⟨h0, hr, e0⟩ : ∃ h0 hr, hs2 = h0 :: hr := by
    cases hs2 with
    | nil => exact absurd t2.ne (Nat.lt_irrefl 0)
    | cons x xs => exact ⟨x, xs, rfl⟩
  have outer := forL_run (g := g_name 2) (b := lp1 K ca)
    (fun ds ρ => ∃ hrest a b c d e, ds = hrest.map D.str ∧ (∀ h ∈ hrest, h ∈ hs) ∧ ρ = [some (tabD hs rs), some (tabD hs2 rs2), a, b, c, d, e, none])
    (fun d ds ρ ⟨hrest, a, b, c, d', e, e1, e2, e3⟩ => by
      cases hrest with
      | nil => cases e1
      | cons h hrest =>
        injection e1 with e5 e6
        subst e5 e6 e3
        have hin := e2 h List.mem_cons_self
        have kh := ok_head (t.hin h hin)
        obtain ⟨j, hj⟩ := idx_some hin
        have jl : j < hs.length := (List.getElem?_eq_some_iff.mp (idxS_at hj).1).1
        have wx : ∀ d ∈ colD rs j, isW d := col_w t jl
        have lx : (colD rs j).length < 100 := by rw [col_len]; exact Nat.lt_of_le_of_lt t.few hm
        have tix : gTidx (.tup (hs.map .str)) (.str h) = some (.int (j : Nat)) := by
          unfold gTidx
          simp only [strs_map, hj, Option.map_some]
        have mine : ∀ (b c d' e : Option D), lcL [7] (g_name 7) t_yes (e_ix (e_peek 7) (e_tidx (e_ix (e_peek 0) (e_c (.int 0))) (e_peek 2))) (rs.map .tup) [] [some (tabD hs rs), some (tabD hs2 rs2), some (.str h), b, c, d', e, none] = .ok (.lst true (colD rs j)) [some (tabD hs rs), some (tabD hs2 rs2), some (.str h), b, c, d', e, none] := fun b c d' e => by
          rw [lcL_map (y := fun d => match d with | .tup r => r.getD j .non | _ => .non) (fun d hd => by
            obtain ⟨r, hr, rfl⟩ := List.mem_map.mp hd
            have hj' : j < r.length := by rw [t.len r hr]; exact jl
            have g : r[j]? = some (r.getD j .non) := by rw [List.getD_eq_getElem?_getD, List.getElem?_eq_getElem hj']; rfl
            have w : isW (r.getD j .non) := t.w r hr _ (List.mem_of_getElem? g)
            refine ⟨[some (tabD hs rs), some (tabD hs2 rs2), some (.str h), b, c, d', e, some (.tup r)], [some (tabD hs rs), some (tabD hs2 rs2), some (.str h), b, c, d', e, some (.tup r)], rfl, ?_, rfl⟩
            simp (disch := first | decide | omega | assumption) only [sz_le, sz_lt, v_mod, v_div, v_range, v_mul, ev_fn, ev_start, ev_seq, ev_nil, ev_nx, ev_rt, ev_bk, ev_ct, ev_ex, ev_ono, ev_onx, ev_ort, ev_oex, ev_set, ev_ret, ev_if, ev_expr, ev_raise, ev_c, ev_peek, ev_var, ev_mov, ev_op, ev_ix, ev_un, ev_isi, ev_callB, ev_call, ev_callF, ev_esn, ev_esc, ev_tup, ev_lst, ev_tof, ev_and, ev_or, ev_not, ev_yes, ev_eand, ev_eor, ev_eif, ev_chain, ev_sl, ev_pn, ev_ps, ev_lc, ev_asg, ev_gn, ev_gt, ev_gc, ev_gnil, ev_for, ev_while, ev_range, ev_iof, ev_ienum, ev_append, ev_tidx, ev_isc, ev_try, ev_add, ev_sub, re_bok, re_bex, re_bno, re_of, re_sok, re_sex, re_sno, List.map_cons, List.map_nil, List.length_cons, List.length_nil, List.replicate_succ, List.replicate_zero, List.cons_append, List.nil_append, List.getElem?_cons_zero, List.getElem?_cons_succ, List.getElem?_nil, List.set_cons_zero, List.set_cons_succ, List.set_nil, Nat.reduceAdd, Nat.reduceSub, Nat.reduceEqDiff, ↓reduceIte, Bool.not_true, Bool.not_false, Bool.false_eq_true, D.frz, D.frzs, eq_int, ne_int, eq_bl, ne_bl, decide_true, decide_false, Option.bind_some, Option.map_some, wipeE, v_isN, v_notN, non_int, non_str, non_non, true_or, or_true, D.clean, D.cleans, D.ownss, D.owns, Bool.or_false, Bool.false_or, Bool.and_true, Bool.true_and, v_add, v_sub, v_lt, v_le, v_gt, v_ge, v_neg, v_lenL, v_lenT, v_lts, tabD, v_ix0 (show (D.tup (hs.map .str)).owns = false from o1), st_tab t, tix, v_ixT g (own_w w)]) (by rw [List.length_map]; exact sz_le (by have := t.few; simp only [List.length_nil]; omega))]
          simp (disch := first | decide | omega | assumption) only [sz_le, sz_lt, v_mod, v_div, v_range, v_mul, ev_fn, ev_start, ev_seq, ev_nil, ev_nx, ev_rt, ev_bk, ev_ct, ev_ex, ev_ono, ev_onx, ev_ort, ev_oex, ev_set, ev_ret, ev_if, ev_expr, ev_raise, ev_c, ev_peek, ev_var, ev_mov, ev_op, ev_ix, ev_un, ev_isi, ev_callB, ev_call, ev_callF, ev_esn, ev_esc, ev_tup, ev_lst, ev_tof, ev_and, ev_or, ev_not, ev_yes, ev_eand, ev_eor, ev_eif, ev_chain, ev_sl, ev_pn, ev_ps, ev_lc, ev_asg, ev_gn, ev_gt, ev_gc, ev_gnil, ev_for, ev_while, ev_range, ev_iof, ev_ienum, ev_append, ev_tidx, ev_isc, ev_try, ev_add, ev_sub, re_bok, re_bex, re_bno, re_of, re_sok, re_sex, re_sno, List.map_cons, List.map_nil, List.length_cons, List.length_nil, List.replicate_succ, List.replicate_zero, List.cons_append, List.nil_append, List.getElem?_cons_zero, List.getElem?_cons_succ, List.getElem?_nil, List.set_cons_zero, List.set_cons_succ, List.set_nil, Nat.reduceAdd, Nat.reduceSub, Nat.reduceEqDiff, ↓reduceIte, Bool.not_true, Bool.not_false, Bool.false_eq_true, D.frz, D.frzs, eq_int, ne_int, eq_bl, ne_bl, decide_true, decide_false, Option.bind_some, Option.map_some, wipeE, v_isN, v_notN, non_int, non_str, non_non, true_or, or_true, D.clean, D.cleans, D.ownss, D.owns, Bool.or_false, Bool.false_or, Bool.and_true, Bool.true_and, v_add, v_sub, v_lt, v_le, v_gt, v_ge, v_neg, v_lenL, v_lenT, v_lts, List.map_map]
          rfl
        have inner : ∀ c d' e, ∃ c2 d2 e2, forL (g_name 4) (lp2 K ca)
            (hs2.map .str) [some (tabD hs rs), some (tabD hs2 rs2), some (.str h), some (.lst true (colD rs j)), c, d', e, none] = .nx [some (tabD hs rs), some (tabD hs2 rs2), some (.str h), some (.lst true (colD rs j)), c2, d2, e2, none] := fun c d' e => by
          obtain ⟨ρ', h1, orest, c2, d2, e2', f1, f2, f3⟩ := forL_run (g := g_name 4) (b := lp2 K ca)
            (fun ds ρ => ∃ orest c d' e, ds = orest.map D.str ∧ (∀ o ∈ orest, o ∈ hs2) ∧ ρ = [some (tabD hs rs), some (tabD hs2 rs2), some (.str h), some (.lst true (colD rs j)), c, d', e, none])
            (fun d ds ρ ⟨orest, c, d', e, f1, f2, f3⟩ => by
              cases orest with
              | nil => cases f1
              | cons o orest =>
                injection f1 with f5 f6
                subst f5 f6 f3
                have oin := f2 o List.mem_cons_self
                have ko := ok_head (t2.hin o oin)
                obtain ⟨i, hi⟩ := idx_some oin
                have il : i < hs2.length := (List.getElem?_eq_some_iff.mp (idxS_at hi).1).1
                have wy : ∀ d ∈ colD rs2 i, isW d := col_w t2 il
                have ly : (colD rs2 i).length < 100 := by rw [col_len]; exact Nat.lt_of_le_of_lt t2.few hm2
                have tio : gTidx (.tup (hs2.map .str)) (.str o) = some (.int (i : Nat)) := by
                  unfold gTidx
                  simp only [strs_map, hi, Option.map_some]
                have yours : lcL [7] (g_name 7) t_yes (e_ix (e_peek 7) (e_tidx (e_ix (e_peek 1) (e_c (.int 0))) (e_peek 4))) (rs2.map .tup) [] [some (tabD hs rs), some (tabD hs2 rs2), some (.str h), some (.lst true (colD rs j)), some (.str o), d', e, none] = .ok (.lst true (colD rs2 i)) [some (tabD hs rs), some (tabD hs2 rs2), some (.str h), some (.lst true (colD rs j)), some (.str o), d', e, none] := by
                  rw [lcL_map (y := fun d => match d with | .tup r => r.getD i .non | _ => .non) (fun d hd => by
                    obtain ⟨r, hr, rfl⟩ := List.mem_map.mp hd
                    have hj' : i < r.length := by rw [t2.len r hr]; exact il
                    have g : r[i]? = some (r.getD i .non) := by rw [List.getD_eq_getElem?_getD, List.getElem?_eq_getElem hj']; rfl
                    have w : isW (r.getD i .non) := t2.w r hr _ (List.mem_of_getElem? g)
                    refine ⟨[some (tabD hs rs), some (tabD hs2 rs2), some (.str h), some (.lst true (colD rs j)), some (.str o), d', e, some (.tup r)], [some (tabD hs rs), some (tabD hs2 rs2), some (.str h), some (.lst true (colD rs j)), some (.str o), d', e, some (.tup r)], rfl, ?_, rfl⟩
                    simp (disch := first | decide | omega | assumption) only [sz_le, sz_lt, v_mod, v_div, v_range, v_mul, ev_fn, ev_start, ev_seq, ev_nil, ev_nx, ev_rt, ev_bk, ev_ct, ev_ex, ev_ono, ev_onx, ev_ort, ev_oex, ev_set, ev_ret, ev_if, ev_expr, ev_raise, ev_c, ev_peek, ev_var, ev_mov, ev_op, ev_ix, ev_un, ev_isi, ev_callB, ev_call, ev_callF, ev_esn, ev_esc, ev_tup, ev_lst, ev_tof, ev_and, ev_or, ev_not, ev_yes, ev_eand, ev_eor, ev_eif, ev_chain, ev_sl, ev_pn, ev_ps, ev_lc, ev_asg, ev_gn, ev_gt, ev_gc, ev_gnil, ev_for, ev_while, ev_range, ev_iof, ev_ienum, ev_append, ev_tidx, ev_isc, ev_try, ev_add, ev_sub, re_bok, re_bex, re_bno, re_of, re_sok, re_sex, re_sno, List.map_cons, List.map_nil, List.length_cons, List.length_nil, List.replicate_succ, List.replicate_zero, List.cons_append, List.nil_append, List.getElem?_cons_zero, List.getElem?_cons_succ, List.getElem?_nil, List.set_cons_zero, List.set_cons_succ, List.set_nil, Nat.reduceAdd, Nat.reduceSub, Nat.reduceEqDiff, ↓reduceIte, Bool.not_true, Bool.not_false, Bool.false_eq_true, D.frz, D.frzs, eq_int, ne_int, eq_bl, ne_bl, decide_true, decide_false, Option.bind_some, Option.map_some, wipeE, v_isN, v_notN, non_int, non_str, non_non, true_or, or_true, D.clean, D.cleans, D.ownss, D.owns, Bool.or_false, Bool.false_or, Bool.and_true, Bool.true_and, v_add, v_sub, v_lt, v_le, v_gt, v_ge, v_neg, v_lenL, v_lenT, v_lts, tabD, v_ix0 (show (D.tup (hs2.map .str)).owns = false from o3), st_tab t2, tio, v_ixT g (own_w w)]) (by rw [List.length_map]; exact sz_le (by have := t2.few; simp only [List.length_nil]; omega))]
                  simp (disch := first | decide | omega | assumption) only [sz_le, sz_lt, v_mod, v_div, v_range, v_mul, ev_fn, ev_start, ev_seq, ev_nil, ev_nx, ev_rt, ev_bk, ev_ct, ev_ex, ev_ono, ev_onx, ev_ort, ev_oex, ev_set, ev_ret, ev_if, ev_expr, ev_raise, ev_c, ev_peek, ev_var, ev_mov, ev_op, ev_ix, ev_un, ev_isi, ev_callB, ev_call, ev_callF, ev_esn, ev_esc, ev_tup, ev_lst, ev_tof, ev_and, ev_or, ev_not, ev_yes, ev_eand, ev_eor, ev_eif, ev_chain, ev_sl, ev_pn, ev_ps, ev_lc, ev_asg, ev_gn, ev_gt, ev_gc, ev_gnil, ev_for, ev_while, ev_range, ev_iof, ev_ienum, ev_append, ev_tidx, ev_isc, ev_try, ev_add, ev_sub, re_bok, re_bex, re_bno, re_of, re_sok, re_sex, re_sno, List.map_cons, List.map_nil, List.length_cons, List.length_nil, List.replicate_succ, List.replicate_zero, List.cons_append, List.nil_append, List.getElem?_cons_zero, List.getElem?_cons_succ, List.getElem?_nil, List.set_cons_zero, List.set_cons_succ, List.set_nil, Nat.reduceAdd, Nat.reduceSub, Nat.reduceEqDiff, ↓reduceIte, Bool.not_true, Bool.not_false, Bool.false_eq_true, D.frz, D.frzs, eq_int, ne_int, eq_bl, ne_bl, decide_true, decide_false, Option.bind_some, Option.map_some, wipeE, v_isN, v_notN, non_int, non_str, non_non, true_or, or_true, D.clean, D.cleans, D.ownss, D.owns, Bool.or_false, Bool.false_or, Bool.and_true, Bool.true_and, v_add, v_sub, v_lt, v_le, v_gt, v_ge, v_neg, v_lenL, v_lenT, v_lts, List.map_map]
                  rfl
                have pe := p_pairs (K := K) (ca := ca) wx wy lx ly
                have rows : s_paired_rows K ca [tabD hs rs, .str h, tabD hs2 rs2, .str o] = .ok (.lst true (pr1 meet (colD rs2 i) 0 (colD rs j))) := by
                  rw [p_paired_rows t t2 hm hm2 h o kh ko, hj, hi]
                have i1 : gIx (tabD hs2 rs2) (.int 1) = some (.tup (rs2.map .tup)) := v_ix1 (show (D.tup (rs2.map .tup)).owns = false from o4)
                have cl := cleans_all (pr1_clean meet (colD rs2 i) 0 (colD rs j))
                have dt : ∀ d ∈ pr1 meet (colD rs2 i) 0 (colD rs j), d.dat 1 := fun d hd => (pr1_dat meet (colD rs2 i) 0 (colD rs j) d hd).1
                have ln : (pr1 meet (colD rs2 i) 0 (colD rs j)).length < sizeLine := sz_lt (by
                  have h1 := pr1_len meet (colD rs2 i) 0 (colD rs j)
                  have h2 : (colD rs j).length * (colD rs2 i).length ≤ 100 * 100 := Nat.mul_le_mul (by omega) (by omega)
                  omega)
                refine ⟨[some (tabD hs rs), some (tabD hs2 rs2), some (.str h), some (.lst true (colD rs j)), some (.str o), d', e, none], _, rfl, .inl (?_ : _ = RO.nx [some (tabD hs rs), some (tabD hs2 rs2), some (.str h), some (.lst true (colD rs j)), some (.str o), some (.lst true (pr1 meet (colD rs2 i) 0 (colD rs j))), some (.lst true (pr1 meet (colD rs2 i) 0 (colD rs j) ++ [.tup [.int 0, .int 0]])), none]), orest, _, _, _, rfl, fun x hx => f2 x (List.mem_cons_of_mem _ hx), rfl⟩
                unfold lp2
                simp (disch := first | decide | omega | assumption) only [sz_le, sz_lt, v_mod, v_div, v_range, v_mul, ev_fn, ev_start, ev_seq, ev_nil, ev_nx, ev_rt, ev_bk, ev_ct, ev_ex, ev_ono, ev_onx, ev_ort, ev_oex, ev_set, ev_ret, ev_if, ev_expr, ev_raise, ev_c, ev_peek, ev_var, ev_mov, ev_op, ev_ix, ev_un, ev_isi, ev_callB, ev_call, ev_callF, ev_esn, ev_esc, ev_tup, ev_lst, ev_tof, ev_and, ev_or, ev_not, ev_yes, ev_eand, ev_eor, ev_eif, ev_chain, ev_sl, ev_pn, ev_ps, ev_lc, ev_asg, ev_gn, ev_gt, ev_gc, ev_gnil, ev_for, ev_while, ev_range, ev_iof, ev_ienum, ev_append, ev_tidx, ev_isc, ev_try, ev_add, ev_sub, re_bok, re_bex, re_bno, re_of, re_sok, re_sex, re_sno, List.map_cons, List.map_nil, List.length_cons, List.length_nil, List.replicate_succ, List.replicate_zero, List.cons_append, List.nil_append, List.getElem?_cons_zero, List.getElem?_cons_succ, List.getElem?_nil, List.set_cons_zero, List.set_cons_succ, List.set_nil, Nat.reduceAdd, Nat.reduceSub, Nat.reduceEqDiff, ↓reduceIte, Bool.not_true, Bool.not_false, Bool.false_eq_true, D.frz, D.frzs, eq_int, ne_int, eq_bl, ne_bl, decide_true, decide_false, Option.bind_some, Option.map_some, wipeE, v_isN, v_notN, non_int, non_str, non_non, true_or, or_true, D.clean, D.cleans, D.ownss, D.owns, Bool.or_false, Bool.false_or, Bool.and_true, Bool.true_and, v_add, v_sub, v_lt, v_le, v_gt, v_ge, v_neg, v_lenL, v_lenT, v_lts, i1, frzs_none _ o4, yours, frzs_ws wx, frzs_ws wy, pe, cl, frz_tab t, frz_tab t2, rows, own_tab t, own_tab t2, v_isLst (show (D.lst true _).isExn = false from rfl), D.isLst, ne_lst dt, ownL, ln])
            (ds := hs2.map .str) (ρ := [some (tabD hs rs), some (tabD hs2 rs2), some (.str h), some (.lst true (colD rs j)), c, d', e, none]) ⟨hs2, c, d', e, rfl, fun _ h => h, rfl⟩
          subst f3
          exact ⟨_, _, _, h1⟩
        obtain ⟨c2, d2, e2', hin2⟩ := inner c d' e
        have i1 : gIx (tabD hs rs) (.int 1) = some (.tup (rs.map .tup)) := v_ix1 (show (D.tup (rs.map .tup)).owns = false from o2)
        have i0 : gIx (tabD hs2 rs2) (.int 0) = some (.tup (hs2.map .str)) := v_ix0 (show (D.tup (hs2.map .str)).owns = false from o3)
        have i00 : gIx (.tup (hs2.map .str)) (.int 0) = some (.str h0) := by rw [e0]; exact v_ix0 rfl
        have k0 := ok_head (t2.hin h0 (by rw [e0]; exact List.mem_cons_self))
        have r1 := p_refused T t t2 hm hm2 2 (by decide) h (Str.ofString "z") kh kz (.inr ⟨rfl, z2⟩)
        have r2 := p_refused T t t2 hm hm2 2 (by decide) (Str.ofString "z") h0 kz k0 (.inl z1)
        rw [Int.cast_ofNat_Int] at r1 r2
        refine ⟨[some (tabD hs rs), some (tabD hs2 rs2), some (.str h), b, c, d', e, none], _, rfl, .inl (?_ : _ = RO.nx [some (tabD hs rs), some (tabD hs2 rs2), some (.str h), some (.lst true (colD rs j)), c2, d2, e2', none]), hrest, _, _, _, _, _, rfl, fun x hx => e2 x (List.mem_cons_of_mem _ hx), rfl⟩
        unfold lp1
        simp (disch := first | decide | omega | assumption) only [sz_le, sz_lt, v_mod, v_div, v_range, v_mul, ev_fn, ev_start, ev_seq, ev_nil, ev_nx, ev_rt, ev_bk, ev_ct, ev_ex, ev_ono, ev_onx, ev_ort, ev_oex, ev_set, ev_ret, ev_if, ev_expr, ev_raise, ev_c, ev_peek, ev_var, ev_mov, ev_op, ev_ix, ev_un, ev_isi, ev_callB, ev_call, ev_callF, ev_esn, ev_esc, ev_tup, ev_lst, ev_tof, ev_and, ev_or, ev_not, ev_yes, ev_eand, ev_eor, ev_eif, ev_chain, ev_sl, ev_pn, ev_ps, ev_lc, ev_asg, ev_gn, ev_gt, ev_gc, ev_gnil, ev_for, ev_while, ev_range, ev_iof, ev_ienum, ev_append, ev_tidx, ev_isc, ev_try, ev_add, ev_sub, re_bok, re_bex, re_bno, re_of, re_sok, re_sex, re_sno, List.map_cons, List.map_nil, List.length_cons, List.length_nil, List.replicate_succ, List.replicate_zero, List.cons_append, List.nil_append, List.getElem?_cons_zero, List.getElem?_cons_succ, List.getElem?_nil, List.set_cons_zero, List.set_cons_succ, List.set_nil, Nat.reduceAdd, Nat.reduceSub, Nat.reduceEqDiff, ↓reduceIte, Bool.not_true, Bool.not_false, Bool.false_eq_true, D.frz, D.frzs, eq_int, ne_int, eq_bl, ne_bl, decide_true, decide_false, Option.bind_some, Option.map_some, wipeE, v_isN, v_notN, non_int, non_str, non_non, true_or, or_true, D.clean, D.cleans, D.ownss, D.owns, Bool.or_false, Bool.false_or, Bool.and_true, Bool.true_and, v_add, v_sub, v_lt, v_le, v_gt, v_ge, v_neg, v_lenL, v_lenT, v_lts, i1, frzs_none _ o2, mine, i0, frzs_none _ o3, hin2, frz_tab t, frz_tab t2, r1, r2, i00])
    (ds := hs.map .str) (ρ := [some (tabD hs rs), some (tabD hs2 rs2), none, none, none, none, none, none]) ⟨hs, _, _, _, _, _, rfl, fun _ h => h, rfl⟩
  obtain ⟨ρ', h1, hrest, a, b, c, d, e, e1, e2, e3⟩ := outer
  subst e3
  have h1' : forL (g_name 2) (lp1 K ca) (hs.map .str) [some (tabD hs rs), some (tabD hs2 rs2), none, none, none, none, none, none] = .nx [some (tabD hs rs), some (tabD hs2 rs2), a, b, c, d, e, none] := h1
  have h2 : ∀ x, RO.then (forL (g_name 2) (lp1 K ca) (hs.map .str) [some (tabD hs rs), some (tabD hs2 rs2), none, none, none, none, none, none]) x = x [some (tabD hs rs), some (tabD hs2 rs2), a, b, c, d, e, none] := fun x => by rw [h1']; rfl
  refine (congrArg RO.out (h2 _)).trans ?_
  simp (disch := first | decide | omega | assumption) only [sz_le, sz_lt, v_mod, v_div, v_range, v_mul, ev_fn, ev_start, ev_seq, ev_nil, ev_nx, ev_rt, ev_bk, ev_ct, ev_ex, ev_ono, ev_onx, ev_ort, ev_oex, ev_set, ev_ret, ev_if, ev_expr, ev_raise, ev_c, ev_peek, ev_var, ev_mov, ev_op, ev_ix, ev_un, ev_isi, ev_callB, ev_call, ev_callF, ev_esn, ev_esc, ev_tup, ev_lst, ev_tof, ev_and, ev_or, ev_not, ev_yes, ev_eand, ev_eor, ev_eif, ev_chain, ev_sl, ev_pn, ev_ps, ev_lc, ev_asg, ev_gn, ev_gt, ev_gc, ev_gnil, ev_for, ev_while, ev_range, ev_iof, ev_ienum, ev_append, ev_tidx, ev_isc, ev_try, ev_add, ev_sub, re_bok, re_bex, re_bno, re_of, re_sok, re_sex, re_sno, List.map_cons, List.map_nil, List.length_cons, List.length_nil, List.replicate_succ, List.replicate_zero, List.cons_append, List.nil_append, List.getElem?_cons_zero, List.getElem?_cons_succ, List.getElem?_nil, List.set_cons_zero, List.set_cons_succ, List.set_nil, Nat.reduceAdd, Nat.reduceSub, Nat.reduceEqDiff, ↓reduceIte, Bool.not_true, Bool.not_false, Bool.false_eq_true, D.frz, D.frzs, eq_int, ne_int, eq_bl, ne_bl, decide_true, decide_false, Option.bind_some, Option.map_some, wipeE, v_isN, v_notN, non_int, non_str, non_non, true_or, or_true, D.clean, D.cleans, D.ownss, D.owns, Bool.or_false, Bool.false_or, Bool.and_true, Bool.true_and, v_add, v_sub, v_lt, v_le, v_gt, v_ge, v_neg, v_lenL, v_lenT, v_lts, frz_tab t, frz_tab t2, fin]
end
end Gk72

namespace Gk72
open PySem PySem.Spec OL
noncomputable def lw3 (K : PySem.W.Frag) (ca : Nat → Addr) : SS := (s_seq (s_set 9 (e_call (s_fitting K ca) (es_cons (e_peek 1) (es_cons (e_ix (e_peek 2) (e_peek 4)) (es_cons (e_peek 7) (es_cons (e_peek 8) (es_nil))))))) (s_if (t_or (t_not (t_of (e_isi "list" (e_peek 9)))) (t_of (e_op gNe (e_peek 9) (e_call (s__law_due K ca) (es_cons (e_peek 5) (es_cons (e_peek 7) (es_cons (e_peek 8) (es_nil)))))))) (s_ret (e_c (.bl false))) (s_nil)))
noncomputable def lw2 (K : PySem.W.Frag) (ca : Nat → Addr) : SS := (s_for (i_of (e_lst (es_cons (e_c (.int 0)) (es_cons (e_c (.int 1)) (es_cons (e_c (.int 2)) (es_cons (e_un gNeg (e_c (.int 1))) (es_cons (e_c (.str "a")) (es_cons (e_c (.str "b")) (es_cons (e_c (.str "ab")) (es_cons (e_c (.str "")) (es_cons (e_op gPow (e_c (.int 10)) (e_c (.int 60))) (es_cons (e_un gNeg (e_op gPow (e_c (.int 10)) (e_c (.int 60)))) (es_cons (e_c (.str "1")) (es_cons (e_op gMul (e_c (.str "x")) (e_c (.int 200))) (es_cons (e_c (.int 3)) (es_nil)))))))))))))))) (g_name 8) (lw3 K ca))
noncomputable def lw1 (K : PySem.W.Frag) (ca : Nat → Addr) : SS := (s_seq (s_asg (g_name 5) (e_lc [11] (i_of (e_var 3)) (g_name 11) (t_yes) (e_ix (e_peek 11) (e_peek 4)))) (s_seq (s_set 6 (e_call (s_column_of K ca) (es_cons (e_peek 1) (es_cons (e_ix (e_peek 2) (e_peek 4)) (es_nil))))) (s_seq (s_if (t_or (t_not (t_of (e_isi "list" (e_peek 6)))) (t_of (e_op gNe (e_peek 6) (e_peek 5)))) (s_ret (e_c (.bl false))) (s_nil)) (s_seq (s_append 6 (e_c (.int 7))) (s_seq (s_if (t_of (e_op gNe (e_call (s_column_of K ca) (es_cons (e_peek 1) (es_cons (e_ix (e_peek 2) (e_peek 4)) (es_nil)))) (e_peek 5))) (s_ret (e_c (.bl false))) (s_nil)) (s_for (i_of (e_lst (es_cons (e_c (.str "=")) (es_cons (e_c (.str "<")) (es_cons (e_c (.str ">")) (es_nil)))))) (g_name 7) (lw2 K ca)))))))
noncomputable def lw4 (K : PySem.W.Frag) (ca : Nat → Addr) : SS := (s_if (t_or (t_not (t_of (e_call (s__law_refused K ca) (es_cons (e_c (.int 0)) (es_cons (e_peek 1) (es_cons (e_peek 10) (es_cons (e_peek 1) (es_cons (e_peek 10) (es_nil))))))))) (t_not (t_of (e_call (s__law_refused K ca) (es_cons (e_c (.int 1)) (es_cons (e_peek 1) (es_cons (e_peek 10) (es_cons (e_peek 1) (es_cons (e_peek 10) (es_nil)))))))))) (s_ret (e_c (.bl false))) (s_nil))
section
variable {K : PySem.W.Frag} {mg : Str → Option Value} {ca fa : Nat → Addr} {fd : Nat → FuncData}
theorem p_lw3 {most : Nat} {hs : List Str} {rs : List (List D)} (t : Tab most hs rs) (hm : most < 100) {S R a6 : D} {k : Nat} {h : Str} (hh : hs[k]? = some h) (o : Nat) (ho : o < 3) {key : D} (wk : isW key) (nk : key.isNon = false) (o9 : Option D) :
    lw3 K ca [some S, some (tabD hs rs), some (.tup (hs.map .str)), some R, some (.int (k : Nat)), some (.lst true (colD rs k)), some a6, some (.str (opS o)), some key, o9, none, none] =
      .nx [some S, some (tabD hs rs), some (.tup (hs.map .str)), some R, some (.int (k : Nat)), some (.lst true (colD rs k)), some a6, some (.str (opS o)), some key, some (.lst true (idxW (fun w => !w.isNon && opP o w key) 0 (colD rs k))), none, none] := by
  have hid : idxS hs h = some k := idx_nodup t.nd hh
  have kh := ok_head (t.hin h (List.mem_of_getElem? hh))
  have jl : k < hs.length := (List.getElem?_eq_some_iff.mp hh).1
  have wx : ∀ d ∈ colD rs k, isW d := col_w t jl
  have lx : (colD rs k).length < 1000 := by rw [col_len]; have := t.few; omega
  have fit : s_fitting K ca [tabD hs rs, .str h, .str (opS o), key] = .ok (.lst true (idxW (fun w => !w.isNon && opP o w key) 0 (colD rs k))) := by rw [p_fitting t (by omega) h kh o ho wk nk, hid]
  have due := p_due (K := K) (ca := ca) wx lx o ho wk nk
  have ix : gIx (.tup (hs.map .str)) (.int (k : Nat)) = some (.str h) := v_ixT (by rw [List.getElem?_map, hh]; rfl) rfl
  have cl := cleans_ws (idxW_w (fun w => !w.isNon && opP o w key) 0 (colD rs k))
  have dt : ∀ d ∈ idxW (fun w => !w.isNon && opP o w key) 0 (colD rs k), d.dat 0 := fun d hd => dat_w (idxW_w _ _ _ d hd)
  unfold lw3
  generalize idxW (fun w => !w.isNon && opP o w key) 0 (colD rs k) = L at *
  simp (disch := first | decide | omega | assumption) only [sz_le, sz_lt, v_mod, v_div, v_range, v_mul, ev_fn, ev_start, ev_seq, ev_nil, ev_nx, ev_rt, ev_bk, ev_ct, ev_ex, ev_ono, ev_onx, ev_ort, ev_oex, ev_set, ev_ret, ev_if, ev_expr, ev_raise, ev_c, ev_peek, ev_var, ev_mov, ev_op, ev_ix, ev_un, ev_isi, ev_callB, ev_call, ev_callF, ev_esn, ev_esc, ev_tup, ev_lst, ev_tof, ev_and, ev_or, ev_not, ev_yes, ev_eand, ev_eor, ev_eif, ev_chain, ev_sl, ev_pn, ev_ps, ev_lc, ev_asg, ev_gn, ev_gt, ev_gc, ev_gnil, ev_for, ev_while, ev_range, ev_iof, ev_ienum, ev_append, ev_tidx, ev_isc, ev_try, ev_add, ev_sub, re_bok, re_bex, re_bno, re_of, re_sok, re_sex, re_sno, List.map_cons, List.map_nil, List.length_cons, List.length_nil, List.replicate_succ, List.replicate_zero, List.cons_append, List.nil_append, List.getElem?_cons_zero, List.getElem?_cons_succ, List.getElem?_nil, List.set_cons_zero, List.set_cons_succ, List.set_nil, Nat.reduceAdd, Nat.reduceSub, Nat.reduceEqDiff, ↓reduceIte, Bool.not_true, Bool.not_false, Bool.false_eq_true, D.frz, D.frzs, eq_int, ne_int, eq_bl, ne_bl, decide_true, decide_false, Option.bind_some, Option.map_some, wipeE, v_isN, v_notN, non_int, non_str, non_non, true_or, or_true, D.clean, D.cleans, D.ownss, D.owns, Bool.or_false, Bool.false_or, Bool.and_true, Bool.true_and, v_add, v_sub, v_lt, v_le, v_gt, v_ge, v_neg, v_lenL, v_lenT, v_lts, ix, frz_tab t, frz_w wk, fit, cl, v_isLst (show (D.lst true _).isExn = false from rfl), D.isLst, frzs_ws wx, due, ne_lst dt]
theorem key_w {d : D} (hd : d ∈ [D.int 0, .int 1, .int 2, .int (-1), .str (Str.ofString "a"), .str (Str.ofString "b"), .str (Str.ofString "ab"), .str (Str.ofString ""), .int 1000000000000000000000000000000000000000000000000000000000000, .int (-1000000000000000000000000000000000000000000000000000000000000), .str (Str.ofString "1"), .str x200, .int 3]) : isW d ∧ d.isNon = false := by
  simp only [List.mem_cons, List.not_mem_nil, or_false] at hd
  rcases hd with rfl | rfl | rfl | rfl | rfl | rfl | rfl | rfl | rfl | rfl | rfl | rfl | rfl
  all_goals first | exact ⟨trivial, rfl⟩ | exact ⟨(show PyData.strOk _ = true by decide +kernel), rfl⟩
theorem p_lw2 {most : Nat} {hs : List Str} {rs : List (List D)} (t : Tab most hs rs) (hm : most < 100) {S R a6 : D} {k : Nat} {h : Str} (hh : hs[k]? = some h) (o : Nat) (ho : o < 3) (o8 o9 : Option D) :
    ∃ o8' o9', lw2 K ca [some S, some (tabD hs rs), some (.tup (hs.map .str)), some R, some (.int (k : Nat)), some (.lst true (colD rs k)), some a6, some (.str (opS o)), o8, o9, none, none] =
      .nx [some S, some (tabD hs rs), some (.tup (hs.map .str)), some R, some (.int (k : Nat)), some (.lst true (colD rs k)), some a6, some (.str (opS o)), o8', o9', none, none] := by
  unfold lw2
  simp (disch := first | decide | omega | assumption) only [sz_le, sz_lt, v_mod, v_div, v_range, v_mul, ev_fn, ev_start, ev_seq, ev_nil, ev_nx, ev_rt, ev_bk, ev_ct, ev_ex, ev_ono, ev_onx, ev_ort, ev_oex, ev_set, ev_ret, ev_if, ev_expr, ev_raise, ev_c, ev_peek, ev_var, ev_mov, ev_op, ev_ix, ev_un, ev_isi, ev_callB, ev_call, ev_callF, ev_esn, ev_esc, ev_tup, ev_lst, ev_tof, ev_and, ev_or, ev_not, ev_yes, ev_eand, ev_eor, ev_eif, ev_chain, ev_sl, ev_pn, ev_ps, ev_lc, ev_asg, ev_gn, ev_gt, ev_gc, ev_gnil, ev_for, ev_while, ev_range, ev_iof, ev_ienum, ev_append, ev_tidx, ev_isc, ev_try, ev_add, ev_sub, re_bok, re_bex, re_bno, re_of, re_sok, re_sex, re_sno, List.map_cons, List.map_nil, List.length_cons, List.length_nil, List.replicate_succ, List.replicate_zero, List.cons_append, List.nil_append, List.getElem?_cons_zero, List.getElem?_cons_succ, List.getElem?_nil, List.set_cons_zero, List.set_cons_succ, List.set_nil, Nat.reduceAdd, Nat.reduceSub, Nat.reduceEqDiff, ↓reduceIte, Bool.not_true, Bool.not_false, Bool.false_eq_true, D.frz, D.frzs, eq_int, ne_int, eq_bl, ne_bl, decide_true, decide_false, Option.bind_some, Option.map_some, wipeE, v_isN, v_notN, non_int, non_str, non_non, true_or, or_true, D.clean, D.cleans, D.ownss, D.owns, Bool.or_false, Bool.false_or, Bool.and_true, Bool.true_and, v_add, v_sub, v_lt, v_le, v_gt, v_ge, v_neg, v_lenL, v_lenT, v_lts, v_pow60, v_x200]
  obtain ⟨ρ', h1, h2, o8', o9', e⟩ := forL_run (g := g_name 8) (b := lw3 K ca) (fun ds ρ => (∀ d ∈ ds, isW d ∧ d.isNon = false) ∧ ∃ o8 o9, ρ = [some S, some (tabD hs rs), some (.tup (hs.map .str)), some R, some (.int (k : Nat)), some (.lst true (colD rs k)), some a6, some (.str (opS o)), o8, o9, none, none])
    (fun d ds ρ ⟨hw, o8, o9, e⟩ => by
      subst e
      obtain ⟨w1, w2⟩ := hw d List.mem_cons_self
      exact ⟨_, _, rfl, .inl (p_lw3 t hm hh o ho w1 w2 o9), fun x hx => hw x (List.mem_cons_of_mem _ hx), _, _, rfl⟩)
    (ds := [D.int 0, .int 1, .int 2, .int (-1), .str (Str.ofString "a"), .str (Str.ofString "b"), .str (Str.ofString "ab"), .str (Str.ofString ""), .int 1000000000000000000000000000000000000000000000000000000000000, .int (-1000000000000000000000000000000000000000000000000000000000000), .str (Str.ofString "1"), .str x200, .int 3])
    (ρ := [some S, some (tabD hs rs), some (.tup (hs.map .str)), some R, some (.int (k : Nat)), some (.lst true (colD rs k)), some a6, some (.str (opS o)), o8, o9, none, none]) ⟨fun d hd => key_w hd, _, _, rfl⟩
  subst e
  exact ⟨_, _, h1⟩
theorem p_lw1 {most : Nat} {hs : List Str} {rs : List (List D)} (t : Tab most hs rs) (hm : most < 100) {S : D} {k : Nat} (hk : k < hs.length) (o5 o6 o7 o8 o9 : Option D) :
    ∃ o5' o6' o7' o8' o9', lw1 K ca [some S, some (tabD hs rs), some (.tup (hs.map .str)), some (.tup (rs.map .tup)), some (.int (k : Nat)), o5, o6, o7, o8, o9, none, none] =
      .nx [some S, some (tabD hs rs), some (.tup (hs.map .str)), some (.tup (rs.map .tup)), some (.int (k : Nat)), o5', o6', o7', o8', o9', none, none] := by
  have hh : hs[k]? = some hs[k] := List.getElem?_eq_getElem hk
  generalize hs[k] = h at hh
  have hid : idxS hs h = some k := idx_nodup t.nd hh
  have kh := ok_head (t.hin h (List.mem_of_getElem? hh))
  have wx : ∀ d ∈ colD rs k, isW d := col_w t hk
  have lx : (colD rs k).length < 1000 := by rw [col_len]; have := t.few; omega
  have o1 := own_strs hs
  have o2 := own_rows t
  have ix : gIx (.tup (hs.map .str)) (.int (k : Nat)) = some (.str h) := v_ixT (by rw [List.getElem?_map, hh]; rfl) rfl
  have colE : s_column_of K ca [tabD hs rs, .str h] = .ok (.lst true (colD rs k)) := by rw [p_column_of t (by omega) h kh, hid]; rfl
  have dt : ∀ d ∈ colD rs k, d.dat 0 := fun d hd => dat_w (wx d hd)
  have due : lcL [11] (g_name 11) t_yes (e_ix (e_peek 11) (e_peek 4)) (rs.map .tup) [] [some S, some (tabD hs rs), some (.tup (hs.map .str)), some (.tup (rs.map .tup)), some (.int (k : Nat)), o5, o6, o7, o8, o9, none, none] = .ok (.lst true (colD rs k)) [some S, some (tabD hs rs), some (.tup (hs.map .str)), some (.tup (rs.map .tup)), some (.int (k : Nat)), o5, o6, o7, o8, o9, none, none] := by
    rw [lcL_map (y := fun d => match d with | .tup r => r.getD k .non | _ => .non) (fun d hd => by
      obtain ⟨r, hr, rfl⟩ := List.mem_map.mp hd
      have hj' : k < r.length := by rw [t.len r hr]; exact hk
      have g : r[k]? = some (r.getD k .non) := by rw [List.getD_eq_getElem?_getD, List.getElem?_eq_getElem hj']; rfl
      have w : isW (r.getD k .non) := t.w r hr _ (List.mem_of_getElem? g)
      refine ⟨[some S, some (tabD hs rs), some (.tup (hs.map .str)), some (.tup (rs.map .tup)), some (.int (k : Nat)), o5, o6, o7, o8, o9, none, some (.tup r)], [some S, some (tabD hs rs), some (.tup (hs.map .str)), some (.tup (rs.map .tup)), some (.int (k : Nat)), o5, o6, o7, o8, o9, none, some (.tup r)], rfl, ?_, rfl⟩
      simp (disch := first | decide | omega | assumption) only [sz_le, sz_lt, v_mod, v_div, v_range, v_mul, ev_fn, ev_start, ev_seq, ev_nil, ev_nx, ev_rt, ev_bk, ev_ct, ev_ex, ev_ono, ev_onx, ev_ort, ev_oex, ev_set, ev_ret, ev_if, ev_expr, ev_raise, ev_c, ev_peek, ev_var, ev_mov, ev_op, ev_ix, ev_un, ev_isi, ev_callB, ev_call, ev_callF, ev_esn, ev_esc, ev_tup, ev_lst, ev_tof, ev_and, ev_or, ev_not, ev_yes, ev_eand, ev_eor, ev_eif, ev_chain, ev_sl, ev_pn, ev_ps, ev_lc, ev_asg, ev_gn, ev_gt, ev_gc, ev_gnil, ev_for, ev_while, ev_range, ev_iof, ev_ienum, ev_append, ev_tidx, ev_isc, ev_try, ev_add, ev_sub, re_bok, re_bex, re_bno, re_of, re_sok, re_sex, re_sno, List.map_cons, List.map_nil, List.length_cons, List.length_nil, List.replicate_succ, List.replicate_zero, List.cons_append, List.nil_append, List.getElem?_cons_zero, List.getElem?_cons_succ, List.getElem?_nil, List.set_cons_zero, List.set_cons_succ, List.set_nil, Nat.reduceAdd, Nat.reduceSub, Nat.reduceEqDiff, ↓reduceIte, Bool.not_true, Bool.not_false, Bool.false_eq_true, D.frz, D.frzs, eq_int, ne_int, eq_bl, ne_bl, decide_true, decide_false, Option.bind_some, Option.map_some, wipeE, v_isN, v_notN, non_int, non_str, non_non, true_or, or_true, D.clean, D.cleans, D.ownss, D.owns, Bool.or_false, Bool.false_or, Bool.and_true, Bool.true_and, v_add, v_sub, v_lt, v_le, v_gt, v_ge, v_neg, v_lenL, v_lenT, v_lts, v_ixT g (own_w w)]) (by rw [List.length_map]; exact sz_le (by have := t.few; simp only [List.length_nil]; omega))]
    simp (disch := first | decide | omega | assumption) only [sz_le, sz_lt, v_mod, v_div, v_range, v_mul, ev_fn, ev_start, ev_seq, ev_nil, ev_nx, ev_rt, ev_bk, ev_ct, ev_ex, ev_ono, ev_onx, ev_ort, ev_oex, ev_set, ev_ret, ev_if, ev_expr, ev_raise, ev_c, ev_peek, ev_var, ev_mov, ev_op, ev_ix, ev_un, ev_isi, ev_callB, ev_call, ev_callF, ev_esn, ev_esc, ev_tup, ev_lst, ev_tof, ev_and, ev_or, ev_not, ev_yes, ev_eand, ev_eor, ev_eif, ev_chain, ev_sl, ev_pn, ev_ps, ev_lc, ev_asg, ev_gn, ev_gt, ev_gc, ev_gnil, ev_for, ev_while, ev_range, ev_iof, ev_ienum, ev_append, ev_tidx, ev_isc, ev_try, ev_add, ev_sub, re_bok, re_bex, re_bno, re_of, re_sok, re_sex, re_sno, List.map_cons, List.map_nil, List.length_cons, List.length_nil, List.replicate_succ, List.replicate_zero, List.cons_append, List.nil_append, List.getElem?_cons_zero, List.getElem?_cons_succ, List.getElem?_nil, List.set_cons_zero, List.set_cons_succ, List.set_nil, Nat.reduceAdd, Nat.reduceSub, Nat.reduceEqDiff, ↓reduceIte, Bool.not_true, Bool.not_false, Bool.false_eq_true, D.frz, D.frzs, eq_int, ne_int, eq_bl, ne_bl, decide_true, decide_false, Option.bind_some, Option.map_some, wipeE, v_isN, v_notN, non_int, non_str, non_non, true_or, or_true, D.clean, D.cleans, D.ownss, D.owns, Bool.or_false, Bool.false_or, Bool.and_true, Bool.true_and, v_add, v_sub, v_lt, v_le, v_gt, v_ge, v_neg, v_lenL, v_lenT, v_lts, List.map_map]
    rfl
  have ops := forL_run (g := g_name 7) (b := lw2 K ca) (fun ds ρ => ∃ os : List Nat, ds = os.map (fun o => D.str (opS o)) ∧ (∀ o ∈ os, o < 3) ∧ ∃ o7 o8 o9, ρ = [some S, some (tabD hs rs), some (.tup (hs.map .str)), some (.tup (rs.map .tup)), some (.int (k : Nat)), some (.lst true (colD rs k)), some (.lst true (colD rs k ++ [.int 7])), o7, o8, o9, none, none])
    (fun d ds ρ ⟨os, e1, e2, o7, o8, o9, e3⟩ => by
      cases os with
      | nil => cases e1
      | cons o os =>
        injection e1 with e4 e5
        subst e3 e4 e5
        obtain ⟨o8', o9', q⟩ := p_lw2 (K := K) (ca := ca) (S := S) (R := .tup (rs.map .tup)) (a6 := .lst true (colD rs k ++ [.int 7])) t hm hh o (e2 o List.mem_cons_self) o8 o9
        exact ⟨_, _, rfl, .inl q, os, rfl, fun x hx => e2 x (List.mem_cons_of_mem _ hx), _, _, _, rfl⟩)
    (ds := [.str (Str.ofString "="), .str (Str.ofString "<"), .str (Str.ofString ">")]) (ρ := [some S, some (tabD hs rs), some (.tup (hs.map .str)), some (.tup (rs.map .tup)), some (.int (k : Nat)), some (.lst true (colD rs k)), some (.lst true (colD rs k ++ [.int 7])), o7, o8, o9, none, none])
    ⟨[0, 1, 2], rfl, by decide, _, _, _, rfl⟩
  obtain ⟨ρ', h1, os, e1, e2, o7', o8', o9', e3⟩ := ops
  subst e3
  refine ⟨some (.lst true (colD rs k)), some (.lst true (colD rs k ++ [.int 7])), o7', o8', o9', ?_⟩
  unfold lw1
  simp (disch := first | decide | omega | assumption) only [sz_le, sz_lt, v_mod, v_div, v_range, v_mul, ev_fn, ev_start, ev_seq, ev_nil, ev_nx, ev_rt, ev_bk, ev_ct, ev_ex, ev_ono, ev_onx, ev_ort, ev_oex, ev_set, ev_ret, ev_if, ev_expr, ev_raise, ev_c, ev_peek, ev_var, ev_mov, ev_op, ev_ix, ev_un, ev_isi, ev_callB, ev_call, ev_callF, ev_esn, ev_esc, ev_tup, ev_lst, ev_tof, ev_and, ev_or, ev_not, ev_yes, ev_eand, ev_eor, ev_eif, ev_chain, ev_sl, ev_pn, ev_ps, ev_lc, ev_asg, ev_gn, ev_gt, ev_gc, ev_gnil, ev_for, ev_while, ev_range, ev_iof, ev_ienum, ev_append, ev_tidx, ev_isc, ev_try, ev_add, ev_sub, re_bok, re_bex, re_bno, re_of, re_sok, re_sex, re_sno, List.map_cons, List.map_nil, List.length_cons, List.length_nil, List.replicate_succ, List.replicate_zero, List.cons_append, List.nil_append, List.getElem?_cons_zero, List.getElem?_cons_succ, List.getElem?_nil, List.set_cons_zero, List.set_cons_succ, List.set_nil, Nat.reduceAdd, Nat.reduceSub, Nat.reduceEqDiff, ↓reduceIte, Bool.not_true, Bool.not_false, Bool.false_eq_true, D.frz, D.frzs, eq_int, ne_int, eq_bl, ne_bl, decide_true, decide_false, Option.bind_some, Option.map_some, wipeE, v_isN, v_notN, non_int, non_str, non_non, true_or, or_true, D.clean, D.cleans, D.ownss, D.owns, Bool.or_false, Bool.false_or, Bool.and_true, Bool.true_and, v_add, v_sub, v_lt, v_le, v_gt, v_ge, v_neg, v_lenL, v_lenT, v_lts, frzs_none _ o2, due, ix, frz_tab t, colE, own_tab t, v_isLst (show (D.lst true _).isExn = false from rfl), D.isLst, ne_lst dt, ownL, h1]
theorem law_true (T : Txt K mg ca fa fd) : ∀ ns : List Int, ns.length ≤ 63 → s_law K ca [.lst false (ns.map D.int)] = .ok (.bl true) := by
  intro ns hn
  obtain ⟨hs, rs, q1, t⟩ := p_table (K := K) (ca := ca) ns 0 12 hn (by decide) (by decide)
  obtain ⟨hs2, rs2, q2, t2⟩ := p_table (K := K) (ca := ca) ns 1 8 hn (by decide) (by decide)
  rw [Int.cast_ofNat_Int, Int.cast_ofNat_Int] at q1 q2
  have o0 := own_ints ns
  have o1 := own_strs hs
  have o2 := own_rows t
  have pr := p_law_paired T t t2 (by decide) (by decide)
  have gt : ∀ ρ, g_tup (g_cons (g_name 2) (g_cons (g_name 3) g_nil)) (tabD hs rs) ρ = some ((ρ.set 2 (some (.tup (hs.map .str)))).set 3 (some (.tup (rs.map .tup)))) := fun ρ => by
    unfold tabD
    simp (disch := first | decide | omega | assumption) only [sz_le, sz_lt, v_mod, v_div, v_range, v_mul, ev_fn, ev_start, ev_seq, ev_nil, ev_nx, ev_rt, ev_bk, ev_ct, ev_ex, ev_ono, ev_onx, ev_ort, ev_oex, ev_set, ev_ret, ev_if, ev_expr, ev_raise, ev_c, ev_peek, ev_var, ev_mov, ev_op, ev_ix, ev_un, ev_isi, ev_callB, ev_call, ev_callF, ev_esn, ev_esc, ev_tup, ev_lst, ev_tof, ev_and, ev_or, ev_not, ev_yes, ev_eand, ev_eor, ev_eif, ev_chain, ev_sl, ev_pn, ev_ps, ev_lc, ev_asg, ev_gn, ev_gt, ev_gc, ev_gnil, ev_for, ev_while, ev_range, ev_iof, ev_ienum, ev_append, ev_tidx, ev_isc, ev_try, ev_add, ev_sub, re_bok, re_bex, re_bno, re_of, re_sok, re_sex, re_sno, List.map_cons, List.map_nil, List.length_cons, List.length_nil, List.replicate_succ, List.replicate_zero, List.cons_append, List.nil_append, List.getElem?_cons_zero, List.getElem?_cons_succ, List.getElem?_nil, List.set_cons_zero, List.set_cons_succ, List.set_nil, Nat.reduceAdd, Nat.reduceSub, Nat.reduceEqDiff, ↓reduceIte, Bool.not_true, Bool.not_false, Bool.false_eq_true, D.frz, D.frzs, eq_int, ne_int, eq_bl, ne_bl, decide_true, decide_false, Option.bind_some, Option.map_some, wipeE, v_isN, v_notN, non_int, non_str, non_non, true_or, or_true, D.clean, D.cleans, D.ownss, D.owns, Bool.or_false, Bool.false_or, Bool.and_true, Bool.true_and, v_add, v_sub, v_lt, v_le, v_gt, v_ge, v_neg, v_lenL, v_lenT, v_lts, o1, o2]
  have l1 := forL_run (g := g_name 4) (b := lw1 K ca) (fun ds ρ => ∃ k m, ds = natsF k m ∧ k + m = hs.length ∧ ∃ o4 o5 o6 o7 o8 o9, ρ = [some (.lst false (ns.map .int)), some (tabD hs rs), some (.tup (hs.map .str)), some (.tup (rs.map .tup)), o4, o5, o6, o7, o8, o9, none, none])
    (fun d ds ρ ⟨k, m, e1, e2, o4, o5, o6, o7, o8, o9, e3⟩ => by
      cases m with
      | zero => cases e1
      | succ m =>
        unfold natsF at e1
        injection e1 with e4 e5
        subst e3 e4 e5
        obtain ⟨o5', o6', o7', o8', o9', q⟩ := p_lw1 (K := K) (ca := ca) (S := .lst false (ns.map .int)) t (by decide) (k := k) (by omega) o5 o6 o7 o8 o9
        exact ⟨_, _, rfl, .inl q, k + 1, m, rfl, by omega, _, _, _, _, _, _, rfl⟩)
    (ds := natsF 0 hs.length) (ρ := [some (.lst false (ns.map .int)), some (tabD hs rs), some (.tup (hs.map .str)), some (.tup (rs.map .tup)), none, none, none, none, none, none, none, none]) ⟨0, hs.length, rfl, Nat.zero_add _, _, _, _, _, _, _, rfl⟩
  obtain ⟨ρ', h1, _, _, _, _, o4, o5, o6, o7, o8, o9, e3⟩ := l1
  subst e3
  have l2 := forL_run (g := g_name 10) (b := lw4 K ca) (fun ds ρ => ∃ ws : List Str, ds = ws.map .str ∧ (∀ w ∈ ws, PyData.strOk w = true ∧ w ∉ hs) ∧ ∃ o10, ρ = [some (.lst false (ns.map .int)), some (tabD hs rs), some (.tup (hs.map .str)), some (.tup (rs.map .tup)), o4, o5, o6, o7, o8, o9, o10, none])
    (fun d ds ρ ⟨ws, e1, e2, o10, e3⟩ => by
      cases ws with
      | nil => cases e1
      | cons w ws =>
        injection e1 with e4 e5
        subst e3 e4 e5
        obtain ⟨kw, nw⟩ := e2 w List.mem_cons_self
        have r0 := p_refused T t t (by decide) (by decide) 0 (by decide) w w kw kw (.inl nw)
        have r1 := p_refused T t t (by decide) (by decide) 1 (by decide) w w kw kw (.inl nw)
        rw [Int.cast_ofNat_Int] at r0 r1
        refine ⟨_, [some (.lst false (ns.map .int)), some (tabD hs rs), some (.tup (hs.map .str)), some (.tup (rs.map .tup)), o4, o5, o6, o7, o8, o9, some (.str w), none], rfl, .inl ?_, ws, rfl, fun x hx => e2 x (List.mem_cons_of_mem _ hx), _, rfl⟩
        unfold lw4
        simp (disch := first | decide | omega | assumption) only [sz_le, sz_lt, v_mod, v_div, v_range, v_mul, ev_fn, ev_start, ev_seq, ev_nil, ev_nx, ev_rt, ev_bk, ev_ct, ev_ex, ev_ono, ev_onx, ev_ort, ev_oex, ev_set, ev_ret, ev_if, ev_expr, ev_raise, ev_c, ev_peek, ev_var, ev_mov, ev_op, ev_ix, ev_un, ev_isi, ev_callB, ev_call, ev_callF, ev_esn, ev_esc, ev_tup, ev_lst, ev_tof, ev_and, ev_or, ev_not, ev_yes, ev_eand, ev_eor, ev_eif, ev_chain, ev_sl, ev_pn, ev_ps, ev_lc, ev_asg, ev_gn, ev_gt, ev_gc, ev_gnil, ev_for, ev_while, ev_range, ev_iof, ev_ienum, ev_append, ev_tidx, ev_isc, ev_try, ev_add, ev_sub, re_bok, re_bex, re_bno, re_of, re_sok, re_sex, re_sno, List.map_cons, List.map_nil, List.length_cons, List.length_nil, List.replicate_succ, List.replicate_zero, List.cons_append, List.nil_append, List.getElem?_cons_zero, List.getElem?_cons_succ, List.getElem?_nil, List.set_cons_zero, List.set_cons_succ, List.set_nil, Nat.reduceAdd, Nat.reduceSub, Nat.reduceEqDiff, ↓reduceIte, Bool.not_true, Bool.not_false, Bool.false_eq_true, D.frz, D.frzs, eq_int, ne_int, eq_bl, ne_bl, decide_true, decide_false, Option.bind_some, Option.map_some, wipeE, v_isN, v_notN, non_int, non_str, non_non, true_or, or_true, D.clean, D.cleans, D.ownss, D.owns, Bool.or_false, Bool.false_or, Bool.and_true, Bool.true_and, v_add, v_sub, v_lt, v_le, v_gt, v_ge, v_neg, v_lenL, v_lenT, v_lts, frz_tab t, r0, r1])
    (ds := [.str (Str.ofString ""), .str (Str.ofString "z"), .str (Str.ofString "A"), .str (Str.ofString "aba")]) (ρ := [some (.lst false (ns.map .int)), some (tabD hs rs), some (.tup (hs.map .str)), some (.tup (rs.map .tup)), o4, o5, o6, o7, o8, o9, none, none])
    ⟨[Str.ofString "", Str.ofString "z", Str.ofString "A", Str.ofString "aba"], rfl, fun w hw => by
      simp only [List.mem_cons, List.not_mem_nil, or_false] at hw
      rcases hw with rfl | rfl | rfl | rfl <;> exact ⟨by decide +kernel, not_head t (by decide +kernel)⟩, _, rfl⟩
  obtain ⟨ρ'', h2, _, _, _, o10, e3⟩ := l2
  subst e3
  have full : s_law K ca = fnS 1 12 (s_seq (s_set 1 (e_call (s__law_table K ca) (es_cons (e_peek 0) (es_cons (e_c (.int 0)) (es_cons (e_c (.int 12)) (es_nil)))))) (s_seq (s_asg (g_tup (g_cons (g_name 2) (g_cons (g_name 3) (g_nil)))) (e_var 1)) (s_seq (s_for (i_range gRange1 (es_cons (e_callB gLen (es_cons (e_peek 2) (es_nil))) (es_nil))) (g_name 4) (lw1 K ca)) (s_seq (s_for (i_of (e_lst (es_cons (e_c (.str "")) (es_cons (e_c (.str "z")) (es_cons (e_c (.str "A")) (es_cons (e_c (.str "aba")) (es_nil))))))) (g_name 10) (lw4 K ca)) (s_ret (e_call (s__law_paired K ca) (es_cons (e_peek 1) (es_cons (e_call (s__law_table K ca) (es_cons (e_peek 0) (es_cons (e_c (.int 1)) (es_cons (e_c (.int 8)) (es_nil))))) (es_nil))))))))) := rfl
  rw [full]
  have hl : (hs.map D.str).length = hs.length := List.length_map ..
  have hl4 := t.le
  simp (disch := first | decide | omega | assumption) only [sz_le, sz_lt, v_mod, v_div, v_range, v_mul, ev_fn, ev_start, ev_seq, ev_nil, ev_nx, ev_rt, ev_bk, ev_ct, ev_ex, ev_ono, ev_onx, ev_ort, ev_oex, ev_set, ev_ret, ev_if, ev_expr, ev_raise, ev_c, ev_peek, ev_var, ev_mov, ev_op, ev_ix, ev_un, ev_isi, ev_callB, ev_call, ev_callF, ev_esn, ev_esc, ev_tup, ev_lst, ev_tof, ev_and, ev_or, ev_not, ev_yes, ev_eand, ev_eor, ev_eif, ev_chain, ev_sl, ev_pn, ev_ps, ev_lc, ev_asg, ev_gn, ev_gt, ev_gc, ev_gnil, ev_for, ev_while, ev_range, ev_iof, ev_ienum, ev_append, ev_tidx, ev_isc, ev_try, ev_add, ev_sub, re_bok, re_bex, re_bno, re_of, re_sok, re_sex, re_sno, List.map_cons, List.map_nil, List.length_cons, List.length_nil, List.replicate_succ, List.replicate_zero, List.cons_append, List.nil_append, List.getElem?_cons_zero, List.getElem?_cons_succ, List.getElem?_nil, List.set_cons_zero, List.set_cons_succ, List.set_nil, Nat.reduceAdd, Nat.reduceSub, Nat.reduceEqDiff, ↓reduceIte, Bool.not_true, Bool.not_false, Bool.false_eq_true, D.frz, D.frzs, eq_int, ne_int, eq_bl, ne_bl, decide_true, decide_false, Option.bind_some, Option.map_some, wipeE, v_isN, v_notN, non_int, non_str, non_non, true_or, or_true, D.clean, D.cleans, D.ownss, D.owns, Bool.or_false, Bool.false_or, Bool.and_true, Bool.true_and, v_add, v_sub, v_lt, v_le, v_gt, v_ge, v_neg, v_lenL, v_lenT, v_lts, frzs_none _ o0, q1, o0, frz_tab t, gt, hl, v_range (show hs.length < 2 ^ 62 by omega), rangeD_nats, natsD_F, h1, h2, q2, frz_tab t2, pr]
end
end Gk72

namespace Gk72
open PySem PySem.Spec L2 OL
def FnIn (K : PySem.W.Frag) (mg : Str → Option Value) (x : Str) (ps : List Str) (st : Stmt) : Prop := ∃ f fd, mg x = some (.ref f) ∧ Fun K x x st f fd ∧ PySem.W.keepIn K (.ref f) = true ∧ Binds K fd ps [] ∧ ∀ (s : Shared) (us : List Value), us.length = ps.length → BindsTo s fd ⟨us, []⟩ (ps.zip us)
theorem bd_fault (kV doc pm : Value) (an : Option Addr) (cdv ct : Value) (us : List Value) (hl : us.length = (["word"] : List Str).length) : bindArgs (PySem.W.fnOf "fault" "fault" (defArgs (top 6)) (defBody (top 6)) (defScope (top 6)) .none kV doc pm an cdv ct) ⟨us, []⟩ = pure ((["word"] : List Str).zip us) := match us, hl with | [_], _ => rfl
theorem bd_is_fault (kV doc pm : Value) (an : Option Addr) (cdv ct : Value) (us : List Value) (hl : us.length = (["worth"] : List Str).length) : bindArgs (PySem.W.fnOf "is_fault" "is_fault" (defArgs (top 7)) (defBody (top 7)) (defScope (top 7)) .none kV doc pm an cdv ct) ⟨us, []⟩ = pure ((["worth"] : List Str).zip us) := match us, hl with | [_], _ => rfl
theorem bd_is_text (kV doc pm : Value) (an : Option Addr) (cdv ct : Value) (us : List Value) (hl : us.length = (["worth"] : List Str).length) : bindArgs (PySem.W.fnOf "is_text" "is_text" (defArgs (top 8)) (defBody (top 8)) (defScope (top 8)) .none kV doc pm an cdv ct) ⟨us, []⟩ = pure ((["worth"] : List Str).zip us) := match us, hl with | [_], _ => rfl
theorem bd_held_number (kV doc pm : Value) (an : Option Addr) (cdv ct : Value) (us : List Value) (hl : us.length = (["number"] : List Str).length) : bindArgs (PySem.W.fnOf "held_number" "held_number" (defArgs (top 9)) (defBody (top 9)) (defScope (top 9)) .none kV doc pm an cdv ct) ⟨us, []⟩ = pure ((["number"] : List Str).zip us) := match us, hl with | [_], _ => rfl
theorem bd_as_number (kV doc pm : Value) (an : Option Addr) (cdv ct : Value) (us : List Value) (hl : us.length = (["worth"] : List Str).length) : bindArgs (PySem.W.fnOf "as_number" "as_number" (defArgs (top 10)) (defBody (top 10)) (defScope (top 10)) .none kV doc pm an cdv ct) ⟨us, []⟩ = pure ((["worth"] : List Str).zip us) := match us, hl with | [_], _ => rfl
theorem bd_as_text (kV doc pm : Value) (an : Option Addr) (cdv ct : Value) (us : List Value) (hl : us.length = (["worth"] : List Str).length) : bindArgs (PySem.W.fnOf "as_text" "as_text" (defArgs (top 11)) (defBody (top 11)) (defScope (top 11)) .none kV doc pm an cdv ct) ⟨us, []⟩ = pure ((["worth"] : List Str).zip us) := match us, hl with | [_], _ => rfl
theorem bd_divided (kV doc pm : Value) (an : Option Addr) (cdv ct : Value) (us : List Value) (hl : us.length = (["op", "one", "other"] : List Str).length) : bindArgs (PySem.W.fnOf "divided" "divided" (defArgs (top 12)) (defBody (top 12)) (defScope (top 12)) .none kV doc pm an cdv ct) ⟨us, []⟩ = pure ((["op", "one", "other"] : List Str).zip us) := match us, hl with | [_, _, _], _ => rfl
theorem bd_reckoned (kV doc pm : Value) (an : Option Addr) (cdv ct : Value) (us : List Value) (hl : us.length = (["op", "one", "other"] : List Str).length) : bindArgs (PySem.W.fnOf "reckoned" "reckoned" (defArgs (top 13)) (defBody (top 13)) (defScope (top 13)) .none kV doc pm an cdv ct) ⟨us, []⟩ = pure ((["op", "one", "other"] : List Str).zip us) := match us, hl with | [_, _, _], _ => rfl
theorem bd_joined (kV doc pm : Value) (an : Option Addr) (cdv ct : Value) (us : List Value) (hl : us.length = (["one", "other"] : List Str).length) : bindArgs (PySem.W.fnOf "joined" "joined" (defArgs (top 14)) (defBody (top 14)) (defScope (top 14)) .none kV doc pm an cdv ct) ⟨us, []⟩ = pure ((["one", "other"] : List Str).zip us) := match us, hl with | [_, _], _ => rfl
theorem bd_same_worth (kV doc pm : Value) (an : Option Addr) (cdv ct : Value) (us : List Value) (hl : us.length = (["one", "other"] : List Str).length) : bindArgs (PySem.W.fnOf "same_worth" "same_worth" (defArgs (top 15)) (defBody (top 15)) (defScope (top 15)) .none kV doc pm an cdv ct) ⟨us, []⟩ = pure ((["one", "other"] : List Str).zip us) := match us, hl with | [_, _], _ => rfl
theorem bd_ahead_of (kV doc pm : Value) (an : Option Addr) (cdv ct : Value) (us : List Value) (hl : us.length = (["one", "other"] : List Str).length) : bindArgs (PySem.W.fnOf "ahead_of" "ahead_of" (defArgs (top 16)) (defBody (top 16)) (defScope (top 16)) .none kV doc pm an cdv ct) ⟨us, []⟩ = pure ((["one", "other"] : List Str).zip us) := match us, hl with | [_, _], _ => rfl
theorem bd_paired (kV doc pm : Value) (an : Option Addr) (cdv ct : Value) (us : List Value) (hl : us.length = (["op", "one", "other"] : List Str).length) : bindArgs (PySem.W.fnOf "paired" "paired" (defArgs (top 17)) (defBody (top 17)) (defScope (top 17)) .none kV doc pm an cdv ct) ⟨us, []⟩ = pure ((["op", "one", "other"] : List Str).zip us) := match us, hl with | [_, _, _], _ => rfl
theorem bd_column_at (kV doc pm : Value) (an : Option Addr) (cdv ct : Value) (us : List Value) (hl : us.length = (["table", "head"] : List Str).length) : bindArgs (PySem.W.fnOf "column_at" "column_at" (defArgs (top 19)) (defBody (top 19)) (defScope (top 19)) .none kV doc pm an cdv ct) ⟨us, []⟩ = pure ((["table", "head"] : List Str).zip us) := match us, hl with | [_, _], _ => rfl
theorem bd_column_of (kV doc pm : Value) (an : Option Addr) (cdv ct : Value) (us : List Value) (hl : us.length = (["table", "head"] : List Str).length) : bindArgs (PySem.W.fnOf "column_of" "column_of" (defArgs (top 20)) (defBody (top 20)) (defScope (top 20)) .none kV doc pm an cdv ct) ⟨us, []⟩ = pure ((["table", "head"] : List Str).zip us) := match us, hl with | [_, _], _ => rfl
theorem bd_fits (kV doc pm : Value) (an : Option Addr) (cdv ct : Value) (us : List Value) (hl : us.length = (["worth", "op", "key"] : List Str).length) : bindArgs (PySem.W.fnOf "fits" "fits" (defArgs (top 21)) (defBody (top 21)) (defScope (top 21)) .none kV doc pm an cdv ct) ⟨us, []⟩ = pure ((["worth", "op", "key"] : List Str).zip us) := match us, hl with | [_, _, _], _ => rfl
theorem bd_fitting (kV doc pm : Value) (an : Option Addr) (cdv ct : Value) (us : List Value) (hl : us.length = (["table", "head", "op", "key"] : List Str).length) : bindArgs (PySem.W.fnOf "fitting" "fitting" (defArgs (top 22)) (defBody (top 22)) (defScope (top 22)) .none kV doc pm an cdv ct) ⟨us, []⟩ = pure ((["table", "head", "op", "key"] : List Str).zip us) := match us, hl with | [_, _, _, _], _ => rfl
theorem bd_paired_rows (kV doc pm : Value) (an : Option Addr) (cdv ct : Value) (us : List Value) (hl : us.length = (["table", "head", "further", "other"] : List Str).length) : bindArgs (PySem.W.fnOf "paired_rows" "paired_rows" (defArgs (top 24)) (defBody (top 24)) (defScope (top 24)) .none kV doc pm an cdv ct) ⟨us, []⟩ = pure ((["table", "head", "further", "other"] : List Str).zip us) := match us, hl with | [_, _, _, _], _ => rfl
theorem bd__law_mix (kV doc pm : Value) (an : Option Addr) (cdv ct : Value) (us : List Value) (hl : us.length = (["cell", "k"] : List Str).length) : bindArgs (PySem.W.fnOf "_law_mix" "_law_mix" (defArgs (top 26)) (defBody (top 26)) (defScope (top 26)) .none kV doc pm an cdv ct) ⟨us, []⟩ = pure ((["cell", "k"] : List Str).zip us) := match us, hl with | [_, _], _ => rfl
theorem bd__law_digits (kV doc pm : Value) (an : Option Addr) (cdv ct : Value) (us : List Value) (hl : us.length = (["cell", "size", "many"] : List Str).length) : bindArgs (PySem.W.fnOf "_law_digits" "_law_digits" (defArgs (top 27)) (defBody (top 27)) (defScope (top 27)) .none kV doc pm an cdv ct) ⟨us, []⟩ = pure ((["cell", "size", "many"] : List Str).zip us) := match us, hl with | [_, _, _], _ => rfl
theorem bd__law_worths (kV doc pm : Value) (an : Option Addr) (cdv ct : Value) (us : List Value) (hl : us.length = (["cell", "many"] : List Str).length) : bindArgs (PySem.W.fnOf "_law_worths" "_law_worths" (defArgs (top 28)) (defBody (top 28)) (defScope (top 28)) .none kV doc pm an cdv ct) ⟨us, []⟩ = pure ((["cell", "many"] : List Str).zip us) := match us, hl with | [_, _], _ => rfl
theorem bd__law_table (kV doc pm : Value) (an : Option Addr) (cdv ct : Value) (us : List Value) (hl : us.length = (["script", "at", "rows_most"] : List Str).length) : bindArgs (PySem.W.fnOf "_law_table" "_law_table" (defArgs (top 29)) (defBody (top 29)) (defScope (top 29)) .none kV doc pm an cdv ct) ⟨us, []⟩ = pure ((["script", "at", "rows_most"] : List Str).zip us) := match us, hl with | [_, _, _], _ => rfl
theorem bd__law_less (kV doc pm : Value) (an : Option Addr) (cdv ct : Value) (us : List Value) (hl : us.length = (["one", "other"] : List Str).length) : bindArgs (PySem.W.fnOf "_law_less" "_law_less" (defArgs (top 30)) (defBody (top 30)) (defScope (top 30)) .none kV doc pm an cdv ct) ⟨us, []⟩ = pure ((["one", "other"] : List Str).zip us) := match us, hl with | [_, _], _ => rfl
theorem bd__law_due (kV doc pm : Value) (an : Option Addr) (cdv ct : Value) (us : List Value) (hl : us.length = (["column", "op", "key"] : List Str).length) : bindArgs (PySem.W.fnOf "_law_due" "_law_due" (defArgs (top 31)) (defBody (top 31)) (defScope (top 31)) .none kV doc pm an cdv ct) ⟨us, []⟩ = pure ((["column", "op", "key"] : List Str).zip us) := match us, hl with | [_, _, _], _ => rfl
theorem bd__law_refused (kV doc pm : Value) (an : Option Addr) (cdv ct : Value) (us : List Value) (hl : us.length = (["way", "table", "head", "further", "other"] : List Str).length) : bindArgs (PySem.W.fnOf "_law_refused" "_law_refused" (defArgs (top 32)) (defBody (top 32)) (defScope (top 32)) .none kV doc pm an cdv ct) ⟨us, []⟩ = pure ((["way", "table", "head", "further", "other"] : List Str).zip us) := match us, hl with | [_, _, _, _, _], _ => rfl
theorem bd__law_pairs (kV doc pm : Value) (an : Option Addr) (cdv ct : Value) (us : List Value) (hl : us.length = (["mine", "yours"] : List Str).length) : bindArgs (PySem.W.fnOf "_law_pairs" "_law_pairs" (defArgs (top 33)) (defBody (top 33)) (defScope (top 33)) .none kV doc pm an cdv ct) ⟨us, []⟩ = pure ((["mine", "yours"] : List Str).zip us) := match us, hl with | [_, _], _ => rfl
theorem bd__law_paired (kV doc pm : Value) (an : Option Addr) (cdv ct : Value) (us : List Value) (hl : us.length = (["table", "further"] : List Str).length) : bindArgs (PySem.W.fnOf "_law_paired" "_law_paired" (defArgs (top 34)) (defBody (top 34)) (defScope (top 34)) .none kV doc pm an cdv ct) ⟨us, []⟩ = pure ((["table", "further"] : List Str).zip us) := match us, hl with | [_, _], _ => rfl
theorem bd_law (kV doc pm : Value) (an : Option Addr) (cdv ct : Value) (us : List Value) (hl : us.length = (["script"] : List Str).length) : bindArgs (PySem.W.fnOf "law" "law" (defArgs (top 35)) (defBody (top 35)) (defScope (top 35)) .none kV doc pm an cdv ct) ⟨us, []⟩ = pure ((["script"] : List Str).zip us) := match us, hl with | [_], _ => rfl
theorem mk {K : PySem.W.Frag} {h : Heap} {mg : Str → Option Value} {C0 C1 : Addr} {t_MOST_SIGNS : Nat} (X : K.In h) (G : h.Ns mainGlobals mg)
    (h_fault : FnIn K mg "fault" ["word"] (top 6))
    (h_is_fault : FnIn K mg "is_fault" ["worth"] (top 7))
    (h_is_text : FnIn K mg "is_text" ["worth"] (top 8))
    (h_held_number : FnIn K mg "held_number" ["number"] (top 9))
    (h_as_number : FnIn K mg "as_number" ["worth"] (top 10))
    (h_as_text : FnIn K mg "as_text" ["worth"] (top 11))
    (h_divided : FnIn K mg "divided" ["op", "one", "other"] (top 12))
    (h_reckoned : FnIn K mg "reckoned" ["op", "one", "other"] (top 13))
    (h_joined : FnIn K mg "joined" ["one", "other"] (top 14))
    (h_same_worth : FnIn K mg "same_worth" ["one", "other"] (top 15))
    (h_ahead_of : FnIn K mg "ahead_of" ["one", "other"] (top 16))
    (h_paired : FnIn K mg "paired" ["op", "one", "other"] (top 17))
    (h_column_at : FnIn K mg "column_at" ["table", "head"] (top 19))
    (h_column_of : FnIn K mg "column_of" ["table", "head"] (top 20))
    (h_fits : FnIn K mg "fits" ["worth", "op", "key"] (top 21))
    (h_fitting : FnIn K mg "fitting" ["table", "head", "op", "key"] (top 22))
    (h_paired_rows : FnIn K mg "paired_rows" ["table", "head", "further", "other"] (top 24))
    (h__law_mix : FnIn K mg "_law_mix" ["cell", "k"] (top 26))
    (h__law_digits : FnIn K mg "_law_digits" ["cell", "size", "many"] (top 27))
    (h__law_worths : FnIn K mg "_law_worths" ["cell", "many"] (top 28))
    (h__law_table : FnIn K mg "_law_table" ["script", "at", "rows_most"] (top 29))
    (h__law_less : FnIn K mg "_law_less" ["one", "other"] (top 30))
    (h__law_due : FnIn K mg "_law_due" ["column", "op", "key"] (top 31))
    (h__law_refused : FnIn K mg "_law_refused" ["way", "table", "head", "further", "other"] (top 32))
    (h__law_pairs : FnIn K mg "_law_pairs" ["mine", "yours"] (top 33))
    (h__law_paired : FnIn K mg "_law_paired" ["table", "further"] (top 34))
    (h_law : FnIn K mg "law" ["script"] (top 35))
    (o_SheetError : ClsOk K mg "SheetError" C0)
    (o_NoColumn : ClsOk K mg "NoColumn" C1)
    (z_SheetError : PySem.W.subIn K (.type "NoneType") (.ref C0) = some false)
    (s_SheetError_SheetError : PySem.W.subIn K (.ref C0) (.ref C0) = some true)
    (s_SheetError_NoColumn : PySem.W.subIn K (.ref C0) (.ref C1) = some false)
    (z_NoColumn : PySem.W.subIn K (.type "NoneType") (.ref C1) = some false)
    (s_NoColumn_SheetError : PySem.W.subIn K (.ref C1) (.ref C0) = some true)
    (s_NoColumn_NoColumn : PySem.W.subIn K (.ref C1) (.ref C1) = some true)
    (n_abs : PySem.W.nsIn K mainGlobals "abs" = some none)
    (n_enumerate : PySem.W.nsIn K mainGlobals "enumerate" = some none)
    (n_int : PySem.W.nsIn K mainGlobals "int" = some none)
    (n_isinstance : PySem.W.nsIn K mainGlobals "isinstance" = some none)
    (n_len : PySem.W.nsIn K mainGlobals "len" = some none)
    (n_list : PySem.W.nsIn K mainGlobals "list" = some none)
    (n_range : PySem.W.nsIn K mainGlobals "range" = some none)
    (n_str : PySem.W.nsIn K mainGlobals "str" = some none)
    (n_sum : PySem.W.nsIn K mainGlobals "sum" = some none)
    (n_tuple : PySem.W.nsIn K mainGlobals "tuple" = some none)
    (v_MOST_SIGNS : PySem.W.nsIn K mainGlobals "MOST_SIGNS" = some (some (.int (200) t_MOST_SIGNS))) :
    ∃ (ca fa : Nat → Addr) (fd : Nat → FuncData), Txt K mg ca fa fd ∧ ∀ (s : Shared) (v : Value), BindsTo s (fd 26) ⟨[v], []⟩ [("script", v)] := by
  obtain ⟨f_fault, d_fault, g_fault, F_fault, k_fault, b_fault, B_fault⟩ := h_fault
  obtain ⟨f_is_fault, d_is_fault, g_is_fault, F_is_fault, k_is_fault, b_is_fault, B_is_fault⟩ := h_is_fault
  obtain ⟨f_is_text, d_is_text, g_is_text, F_is_text, k_is_text, b_is_text, B_is_text⟩ := h_is_text
  obtain ⟨f_held_number, d_held_number, g_held_number, F_held_number, k_held_number, b_held_number, B_held_number⟩ := h_held_number
  obtain ⟨f_as_number, d_as_number, g_as_number, F_as_number, k_as_number, b_as_number, B_as_number⟩ := h_as_number
  obtain ⟨f_as_text, d_as_text, g_as_text, F_as_text, k_as_text, b_as_text, B_as_text⟩ := h_as_text
  obtain ⟨f_divided, d_divided, g_divided, F_divided, k_divided, b_divided, B_divided⟩ := h_divided
  obtain ⟨f_reckoned, d_reckoned, g_reckoned, F_reckoned, k_reckoned, b_reckoned, B_reckoned⟩ := h_reckoned
  obtain ⟨f_joined, d_joined, g_joined, F_joined, k_joined, b_joined, B_joined⟩ := h_joined
  obtain ⟨f_same_worth, d_same_worth, g_same_worth, F_same_worth, k_same_worth, b_same_worth, B_same_worth⟩ := h_same_worth
  obtain ⟨f_ahead_of, d_ahead_of, g_ahead_of, F_ahead_of, k_ahead_of, b_ahead_of, B_ahead_of⟩ := h_ahead_of
  obtain ⟨f_paired, d_paired, g_paired, F_paired, k_paired, b_paired, B_paired⟩ := h_paired
  obtain ⟨f_column_at, d_column_at, g_column_at, F_column_at, k_column_at, b_column_at, B_column_at⟩ := h_column_at
  obtain ⟨f_column_of, d_column_of, g_column_of, F_column_of, k_column_of, b_column_of, B_column_of⟩ := h_column_of
  obtain ⟨f_fits, d_fits, g_fits, F_fits, k_fits, b_fits, B_fits⟩ := h_fits
  obtain ⟨f_fitting, d_fitting, g_fitting, F_fitting, k_fitting, b_fitting, B_fitting⟩ := h_fitting
  obtain ⟨f_paired_rows, d_paired_rows, g_paired_rows, F_paired_rows, k_paired_rows, b_paired_rows, B_paired_rows⟩ := h_paired_rows
  obtain ⟨f__law_mix, d__law_mix, g__law_mix, F__law_mix, k__law_mix, b__law_mix, B__law_mix⟩ := h__law_mix
  obtain ⟨f__law_digits, d__law_digits, g__law_digits, F__law_digits, k__law_digits, b__law_digits, B__law_digits⟩ := h__law_digits
  obtain ⟨f__law_worths, d__law_worths, g__law_worths, F__law_worths, k__law_worths, b__law_worths, B__law_worths⟩ := h__law_worths
  obtain ⟨f__law_table, d__law_table, g__law_table, F__law_table, k__law_table, b__law_table, B__law_table⟩ := h__law_table
  obtain ⟨f__law_less, d__law_less, g__law_less, F__law_less, k__law_less, b__law_less, B__law_less⟩ := h__law_less
  obtain ⟨f__law_due, d__law_due, g__law_due, F__law_due, k__law_due, b__law_due, B__law_due⟩ := h__law_due
  obtain ⟨f__law_refused, d__law_refused, g__law_refused, F__law_refused, k__law_refused, b__law_refused, B__law_refused⟩ := h__law_refused
  obtain ⟨f__law_pairs, d__law_pairs, g__law_pairs, F__law_pairs, k__law_pairs, b__law_pairs, B__law_pairs⟩ := h__law_pairs
  obtain ⟨f__law_paired, d__law_paired, g__law_paired, F__law_paired, k__law_paired, b__law_paired, B__law_paired⟩ := h__law_paired
  obtain ⟨f_law, d_law, g_law, F_law, k_law, b_law, B_law⟩ := h_law
  refine ⟨fun i => [C0, C1].getD i 0, fun i => [f_fault, f_is_fault, f_is_text, f_held_number, f_as_number, f_as_text, f_divided, f_reckoned, f_joined, f_same_worth, f_ahead_of, f_paired, f_column_at, f_column_of, f_fits, f_fitting, f_paired_rows, f__law_mix, f__law_digits, f__law_worths, f__law_table, f__law_less, f__law_due, f__law_refused, f__law_pairs, f__law_paired, f_law].getD i 0, fun i => [d_fault, d_is_fault, d_is_text, d_held_number, d_as_number, d_as_text, d_divided, d_reckoned, d_joined, d_same_worth, d_ahead_of, d_paired, d_column_at, d_column_of, d_fits, d_fitting, d_paired_rows, d__law_mix, d__law_digits, d__law_worths, d__law_table, d__law_less, d__law_due, d__law_refused, d__law_pairs, d__law_paired, d_law].getD i d_law, { f_fault := F_fault, g_fault := g_fault, k_fault := k_fault, b_fault := b_fault, f_is_fault := F_is_fault, g_is_fault := g_is_fault, k_is_fault := k_is_fault, b_is_fault := b_is_fault, f_is_text := F_is_text, g_is_text := g_is_text, k_is_text := k_is_text, b_is_text := b_is_text, f_held_number := F_held_number, g_held_number := g_held_number, k_held_number := k_held_number, b_held_number := b_held_number, f_as_number := F_as_number, g_as_number := g_as_number, k_as_number := k_as_number, b_as_number := b_as_number, f_as_text := F_as_text, g_as_text := g_as_text, k_as_text := k_as_text, b_as_text := b_as_text, f_divided := F_divided, g_divided := g_divided, k_divided := k_divided, b_divided := b_divided, f_reckoned := F_reckoned, g_reckoned := g_reckoned, k_reckoned := k_reckoned, b_reckoned := b_reckoned, f_joined := F_joined, g_joined := g_joined, k_joined := k_joined, b_joined := b_joined, f_same_worth := F_same_worth, g_same_worth := g_same_worth, k_same_worth := k_same_worth, b_same_worth := b_same_worth, f_ahead_of := F_ahead_of, g_ahead_of := g_ahead_of, k_ahead_of := k_ahead_of, b_ahead_of := b_ahead_of, f_paired := F_paired, g_paired := g_paired, k_paired := k_paired, b_paired := b_paired, f_column_at := F_column_at, g_column_at := g_column_at, k_column_at := k_column_at, b_column_at := b_column_at, f_column_of := F_column_of, g_column_of := g_column_of, k_column_of := k_column_of, b_column_of := b_column_of, f_fits := F_fits, g_fits := g_fits, k_fits := k_fits, b_fits := b_fits, f_fitting := F_fitting, g_fitting := g_fitting, k_fitting := k_fitting, b_fitting := b_fitting, f_paired_rows := F_paired_rows, g_paired_rows := g_paired_rows, k_paired_rows := k_paired_rows, b_paired_rows := b_paired_rows, f__law_mix := F__law_mix, g__law_mix := g__law_mix, k__law_mix := k__law_mix, b__law_mix := b__law_mix, f__law_digits := F__law_digits, g__law_digits := g__law_digits, k__law_digits := k__law_digits, b__law_digits := b__law_digits, f__law_worths := F__law_worths, g__law_worths := g__law_worths, k__law_worths := k__law_worths, b__law_worths := b__law_worths, f__law_table := F__law_table, g__law_table := g__law_table, k__law_table := k__law_table, b__law_table := b__law_table, f__law_less := F__law_less, g__law_less := g__law_less, k__law_less := k__law_less, b__law_less := b__law_less, f__law_due := F__law_due, g__law_due := g__law_due, k__law_due := k__law_due, b__law_due := b__law_due, f__law_refused := F__law_refused, g__law_refused := g__law_refused, k__law_refused := k__law_refused, b__law_refused := b__law_refused, f__law_pairs := F__law_pairs, g__law_pairs := g__law_pairs, k__law_pairs := k__law_pairs, b__law_pairs := b__law_pairs, f__law_paired := F__law_paired, g__law_paired := g__law_paired, k__law_paired := k__law_paired, b__law_paired := b__law_paired, f_law := F_law, g_law := g_law, k_law := k_law, b_law := b_law, o_SheetError := o_SheetError, z_SheetError := z_SheetError, o_NoColumn := o_NoColumn, z_NoColumn := z_NoColumn, s_SheetError_SheetError := s_SheetError_SheetError, s_SheetError_NoColumn := s_SheetError_NoColumn, s_NoColumn_SheetError := s_NoColumn_SheetError, s_NoColumn_NoColumn := s_NoColumn_NoColumn, n_abs := PySem.W.mg_none_of X G n_abs, n_enumerate := PySem.W.mg_none_of X G n_enumerate, n_int := PySem.W.mg_none_of X G n_int, n_isinstance := PySem.W.mg_none_of X G n_isinstance, n_len := PySem.W.mg_none_of X G n_len, n_list := PySem.W.mg_none_of X G n_list, n_range := PySem.W.mg_none_of X G n_range, n_str := PySem.W.mg_none_of X G n_str, n_sum := PySem.W.mg_none_of X G n_sum, n_tuple := PySem.W.mg_none_of X G n_tuple, v_MOST_SIGNS := ⟨_, PySem.W.mg_of X G v_MOST_SIGNS, ⟨_, rfl⟩⟩ }, fun s v => B_law s [v] rfl⟩
theorem endF {P : Program} {w : World} {K : PySem.W.Frag} {h : Heap} {mg : Str → Option Value} {f : Addr} (X : K.In h) (G : h.Ns mainGlobals mg) (hf : mg "law" = some (.ref f)) (m : ∃ (ca fa : Nat → Addr) (fd : Nat → FuncData), Txt K mg ca fa fd ∧ ∀ (s : Shared) (v : Value), BindsTo s (fd 26) ⟨[v], []⟩ [("script", v)]) :
    ∃ fd : FuncData, (∀ (s : Shared) (v : Value), BindsTo s fd ⟨[v], []⟩ [("script", v)]) ∧ ∀ base : Heap, K.In base → base.Ns mainGlobals mg → FnOk P w K mg base (L2.CX P w) 9 f fd ["script"] (spLaw K 63) := by
  obtain ⟨ca, fa, fd, T, B⟩ := m
  have e := hf.symm.trans T.g_law
  cases e
  exact ⟨fd 26, B, fun base _ _ => (ok_law T).imp (law_sp (law_true T))⟩
end Gk72
open PySem PySem.W PyProof.Rows
set_option maxRecDepth 100000 in
set_option maxHeartbeats 0 in
theorem PySem.Challenge.cw_onelook_k72_rows_that_fit_holds : PySem.Challenge.rw_onelook_k72_rows_that_fit.Holds := by
  w_on; o_law; k_head; (case hw => w_witness2)
  k_fill
  refine L2.walk_of (l := PySem.Challenge.rw_onelook_k72_rows_that_fit) (n := 63) (k := 9) (x := "script") (CX := fun w => L2.CX (PySem.Challenge.rw_onelook_k72_rows_that_fit).prog w) (sp := fun w => OL.spLaw _ 63) rfl (by decide) rfl ⟨rfl, by decide, by decide⟩ (fun w h Y => PySem.W.kIn_of Y) ?F (fun _ _ a ns hl _ hS => ⟨a, ns, rfl, hS, hl, fun _ => rfl⟩) (fun _ _ _ _ _ h => OL.cx_none h)
  case F =>
    intro w mg fa h KX G hmg
    refine' Gk72.endF KX G hmg (Gk72.mk KX G ?h_fault ?h_is_fault ?h_is_text ?h_held_number ?h_as_number ?h_as_text ?h_divided ?h_reckoned ?h_joined ?h_same_worth ?h_ahead_of ?h_paired ?h_column_at ?h_column_of ?h_fits ?h_fitting ?h_paired_rows ?h__law_mix ?h__law_digits ?h__law_worths ?h__law_table ?h__law_less ?h__law_due ?h__law_refused ?h__law_pairs ?h__law_paired ?h_law ?o_SheetError ?o_NoColumn ?z_SheetError ?s_SheetError_SheetError ?s_SheetError_NoColumn ?z_NoColumn ?s_NoColumn_SheetError ?s_NoColumn_NoColumn ?n_abs ?n_enumerate ?n_int ?n_isinstance ?n_len ?n_list ?n_range ?n_str ?n_sum ?n_tuple ?v_MOST_SIGNS)
    (case h_fault => refine' OL.one_fn (ps := ["word"]) (st := Gk72.top 6) KX G Gk72.bd_fault ?xa ?xl ?xc ?xk; (case xa => k_is); (case xl => k_is); (case xc => k_is); (case xk => k_is))
    (case h_is_fault => refine' OL.one_fn (ps := ["worth"]) (st := Gk72.top 7) KX G Gk72.bd_is_fault ?xa ?xl ?xc ?xk; (case xa => k_is); (case xl => k_is); (case xc => k_is); (case xk => k_is))
    (case h_is_text => refine' OL.one_fn (ps := ["worth"]) (st := Gk72.top 8) KX G Gk72.bd_is_text ?xa ?xl ?xc ?xk; (case xa => k_is); (case xl => k_is); (case xc => k_is); (case xk => k_is))
    (case h_held_number => refine' OL.one_fn (ps := ["number"]) (st := Gk72.top 9) KX G Gk72.bd_held_number ?xa ?xl ?xc ?xk; (case xa => k_is); (case xl => k_is); (case xc => k_is); (case xk => k_is))
    (case h_as_number => refine' OL.one_fn (ps := ["worth"]) (st := Gk72.top 10) KX G Gk72.bd_as_number ?xa ?xl ?xc ?xk; (case xa => k_is); (case xl => k_is); (case xc => k_is); (case xk => k_is))
    (case h_as_text => refine' OL.one_fn (ps := ["worth"]) (st := Gk72.top 11) KX G Gk72.bd_as_text ?xa ?xl ?xc ?xk; (case xa => k_is); (case xl => k_is); (case xc => k_is); (case xk => k_is))
    (case h_divided => refine' OL.one_fn (ps := ["op", "one", "other"]) (st := Gk72.top 12) KX G Gk72.bd_divided ?xa ?xl ?xc ?xk; (case xa => k_is); (case xl => k_is); (case xc => k_is); (case xk => k_is))
    (case h_reckoned => refine' OL.one_fn (ps := ["op", "one", "other"]) (st := Gk72.top 13) KX G Gk72.bd_reckoned ?xa ?xl ?xc ?xk; (case xa => k_is); (case xl => k_is); (case xc => k_is); (case xk => k_is))
    (case h_joined => refine' OL.one_fn (ps := ["one", "other"]) (st := Gk72.top 14) KX G Gk72.bd_joined ?xa ?xl ?xc ?xk; (case xa => k_is); (case xl => k_is); (case xc => k_is); (case xk => k_is))
    (case h_same_worth => refine' OL.one_fn (ps := ["one", "other"]) (st := Gk72.top 15) KX G Gk72.bd_same_worth ?xa ?xl ?xc ?xk; (case xa => k_is); (case xl => k_is); (case xc => k_is); (case xk => k_is))
    (case h_ahead_of => refine' OL.one_fn (ps := ["one", "other"]) (st := Gk72.top 16) KX G Gk72.bd_ahead_of ?xa ?xl ?xc ?xk; (case xa => k_is); (case xl => k_is); (case xc => k_is); (case xk => k_is))
    (case h_paired => refine' OL.one_fn (ps := ["op", "one", "other"]) (st := Gk72.top 17) KX G Gk72.bd_paired ?xa ?xl ?xc ?xk; (case xa => k_is); (case xl => k_is); (case xc => k_is); (case xk => k_is))
    (case h_column_at => refine' OL.one_fn (ps := ["table", "head"]) (st := Gk72.top 19) KX G Gk72.bd_column_at ?xa ?xl ?xc ?xk; (case xa => k_is); (case xl => k_is); (case xc => k_is); (case xk => k_is))
    (case h_column_of => refine' OL.one_fn (ps := ["table", "head"]) (st := Gk72.top 20) KX G Gk72.bd_column_of ?xa ?xl ?xc ?xk; (case xa => k_is); (case xl => k_is); (case xc => k_is); (case xk => k_is))
    (case h_fits => refine' OL.one_fn (ps := ["worth", "op", "key"]) (st := Gk72.top 21) KX G Gk72.bd_fits ?xa ?xl ?xc ?xk; (case xa => k_is); (case xl => k_is); (case xc => k_is); (case xk => k_is))
    (case h_fitting => refine' OL.one_fn (ps := ["table", "head", "op", "key"]) (st := Gk72.top 22) KX G Gk72.bd_fitting ?xa ?xl ?xc ?xk; (case xa => k_is); (case xl => k_is); (case xc => k_is); (case xk => k_is))
    (case h_paired_rows => refine' OL.one_fn (ps := ["table", "head", "further", "other"]) (st := Gk72.top 24) KX G Gk72.bd_paired_rows ?xa ?xl ?xc ?xk; (case xa => k_is); (case xl => k_is); (case xc => k_is); (case xk => k_is))
    (case h__law_mix => refine' OL.one_fn (ps := ["cell", "k"]) (st := Gk72.top 26) KX G Gk72.bd__law_mix ?xa ?xl ?xc ?xk; (case xa => k_is); (case xl => k_is); (case xc => k_is); (case xk => k_is))
    (case h__law_digits => refine' OL.one_fn (ps := ["cell", "size", "many"]) (st := Gk72.top 27) KX G Gk72.bd__law_digits ?xa ?xl ?xc ?xk; (case xa => k_is); (case xl => k_is); (case xc => k_is); (case xk => k_is))
    (case h__law_worths => refine' OL.one_fn (ps := ["cell", "many"]) (st := Gk72.top 28) KX G Gk72.bd__law_worths ?xa ?xl ?xc ?xk; (case xa => k_is); (case xl => k_is); (case xc => k_is); (case xk => k_is))
    (case h__law_table => refine' OL.one_fn (ps := ["script", "at", "rows_most"]) (st := Gk72.top 29) KX G Gk72.bd__law_table ?xa ?xl ?xc ?xk; (case xa => k_is); (case xl => k_is); (case xc => k_is); (case xk => k_is))
    (case h__law_less => refine' OL.one_fn (ps := ["one", "other"]) (st := Gk72.top 30) KX G Gk72.bd__law_less ?xa ?xl ?xc ?xk; (case xa => k_is); (case xl => k_is); (case xc => k_is); (case xk => k_is))
    (case h__law_due => refine' OL.one_fn (ps := ["column", "op", "key"]) (st := Gk72.top 31) KX G Gk72.bd__law_due ?xa ?xl ?xc ?xk; (case xa => k_is); (case xl => k_is); (case xc => k_is); (case xk => k_is))
    (case h__law_refused => refine' OL.one_fn (ps := ["way", "table", "head", "further", "other"]) (st := Gk72.top 32) KX G Gk72.bd__law_refused ?xa ?xl ?xc ?xk; (case xa => k_is); (case xl => k_is); (case xc => k_is); (case xk => k_is))
    (case h__law_pairs => refine' OL.one_fn (ps := ["mine", "yours"]) (st := Gk72.top 33) KX G Gk72.bd__law_pairs ?xa ?xl ?xc ?xk; (case xa => k_is); (case xl => k_is); (case xc => k_is); (case xk => k_is))
    (case h__law_paired => refine' OL.one_fn (ps := ["table", "further"]) (st := Gk72.top 34) KX G Gk72.bd__law_paired ?xa ?xl ?xc ?xk; (case xa => k_is); (case xl => k_is); (case xc => k_is); (case xk => k_is))
    (case h_law => refine' OL.one_fn (ps := ["script"]) (st := Gk72.top 35) KX G Gk72.bd_law ?xa ?xl ?xc ?xk; (case xa => k_is); (case xl => k_is); (case xc => k_is); (case xk => k_is))
    (case o_SheetError => refine' OL.one_cls KX G ?xa ?xq ?xk ?xs ?xt ?xd ?e1 ?e2 ?e3 ?e4 ?e5 ?e6; (case xa => k_is); (case xq => k_exc); (case xk => k_is); (case xs => k_is); (case xt => k_is); (case xd => k_is); (case e1 => k_is); (case e2 => k_is); (case e3 => k_is); (case e4 => k_is); (case e5 => k_is); (case e6 => k_is))
    (case o_NoColumn => refine' OL.one_cls KX G ?xa ?xq ?xk ?xs ?xt ?xd ?e1 ?e2 ?e3 ?e4 ?e5 ?e6; (case xa => k_is); (case xq => k_exc); (case xk => k_is); (case xs => k_is); (case xt => k_is); (case xd => k_is); (case e1 => k_is); (case e2 => k_is); (case e3 => k_is); (case e4 => k_is); (case e5 => k_is); (case e6 => k_is))
    (case z_SheetError => k_is)
    (case s_SheetError_SheetError => first | rfl | k_is)
    (case s_SheetError_NoColumn => first | rfl | k_is)
    (case z_NoColumn => k_is)
    (case s_NoColumn_SheetError => first | rfl | k_is)
    (case s_NoColumn_NoColumn => first | rfl | k_is)
    (case n_abs => k_is)
    (case n_enumerate => k_is)
    (case n_int => k_is)
    (case n_isinstance => k_is)
    (case n_len => k_is)
    (case n_list => k_is)
    (case n_range => k_is)
    (case n_str => k_is)
    (case n_sum => k_is)
    (case n_tuple => k_is)
    (case v_MOST_SIGNS => k_is)

