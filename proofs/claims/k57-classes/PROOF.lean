import PyProof.Rows.All
import Wide.All
import OpenK.AllK
import Wide.FinOn
import HandS.Rev
import HandS.RevTup
import HandS.Iter
import HandS.List
import HandS.SortKw
import KE.DataMinMax
import HandS.DictComp
import HandS.ForMost
import HandS.ForExc
import HandS.Small
import HandS.Style
import HandS.TupAny
import HandS.Deep
import HandS.Wide
import HandS.IsInst
import HandS.StrMore
import HandS.Conv
import HandS.CallSlots
import HandS.Zip
import HandS.SortInts
import HandS.RaiseMore
import HandS.WideBits
import HandS.TupLen
import HandS.WordsDict
import HandS.More
import HandS.Codes
import HandS.Exc
import HandS.TryOnly
import HandS.TryMany
import HandS.RevRange
import HandS.Strs
import KE.GoesMore
import KE.GoesEnum
import KE.KExcSuper
import KE.KSuper
import HandS.ExcInit
import HandS.ExcField
import HandS.ExcIs
import KE.KExcIs
import KE.IntBitsLaws
import PySem.Challenge.RW_clockwright_k57_classes
set_option Elab.async false
set_option maxRecDepth 100000
set_option linter.all false
set_option maxHeartbeats 2000000
set_option maxHeartbeats 1000000
/-! DI, part 0: for x in reversed(a text). -/
namespace RX
open PySem PySem.Spec PyProof.Rows L2 RT
theorem noR : typeLookup (.type "str") "__reversed__" = pure none := by rw [typeLookup_type, builtinLookup_eq_fast]; kernel_rfl
theorem hasG : typeLookup (.type "str") "__getitem__" = pure (some (.builtin "str.__getitem__")) := by rw [typeLookup_type, builtinLookup_eq_fast]; kernel_rfl
def mk (z : Str) (tz : Tok) (i : Int) : Obj := { cls := .type "reversed", data := .fields #[.str z tz, rawInt i] }
/-- reversed(z), the next place i -/
def Rs (h : Heap) (a : Addr) (z : Str) (tz : Tok) (i : Int) : Prop := ∃ ob, h.get? a = some ob ∧ ob.cls = .type "reversed" ∧ ob.data = .fields #[.str z tz, rawInt i]
theorem Rs.at {h h' : Heap} {a : Addr} {z : Str} {tz : Tok} {i : Int} (y : Rs h a z tz i) (e : ∀ ob, h.get? a = some ob → h'.get? a = some ob) : Rs h' a z tz i := let ⟨ob, hob, rr⟩ := y; ⟨ob, e _ hob, rr⟩
section
variable {prog : Program} {w : World} {A : Around} {E : Value → Shared → Prop} {s : Shared}
theorem Rs.ty {a : Addr} {z : Str} {tz : Tok} {i : Int} (y : Rs s.heap a z tz i) : s.TypeIs (.ref a) "reversed" := let ⟨ob, hob, hcl, _⟩ := y; ⟨ob, hob, hcl⟩
theorem code_rs {z : Str} {tz : Tok} {Q₁ : Value → Shared → Prop} (hz : z.length ≤ sizeLine)
    (k : Q₁ (.ref s.heap.objs.size) { s with heap := s.heap.push (mk z tz ((z.length : Int) - 1)), toks := s.toks + 1 + 1 }) :
    codeAny (model prog w) A (.call (.builtin "reversed.__new__") ⟨[.type "reversed", .str z tz], []⟩) (wants Q₁ E) s := by
  have hTS : s.TypeIs (.str z tz) "str" := typeIs_str s z tz
  rw [sizeLine_eq] at hz
  refine codeAny_of_tree ?_
  show wpAny _ A.in1 (do checkBuiltinCall "reversed.__new__" ⟨[.type "reversed", .str z tz], []⟩; again (.builtin "reversed.__new__" ⟨[.type "reversed", .str z tz], []⟩)) _ _ s
  refine wpAny_bind (wpAny_of_eq (F.newCall_reversed_1 _) (wpAny_pure ⟨plainId_quiet F.plain_reversed_new _, codeAny_builtin F.entry_reversed_new ?_⟩)); rw [Around.under_plainId F.plain_reversed_new _]; unfold Builtin.«reversed.__new__»
  refine wpAny_bind (wpAny_of_eq (newClass_reversed _) ?_); try dsimp only
  refine wpAny_bind (wpAny_of_eq (a := ()) (by first | rfl | kernel_rfl) ?_); try dsimp only
  refine wpAny_bind (wpAny_of_eq (a := ()) (by first | rfl | kernel_rfl) ?_); try dsimp only
  refine wpAny_bind (wpAny_specialOf hTS noR ?_)
  try dsimp only
  refine wpAny_bind ?_
  wp_delta
  refine wpAny_bind (wpAny_isInstance (T := "str") (U := "dict") (b := false) hTS PySem.F.sub_str_dict ?_)
  try dsimp only
  try rw [if_neg Bool.false_ne_true]; try dsimp only
  refine wpAny_bind (wpAny_specialOf hTS hasG ?_)
  try dsimp only
  try rw [if_pos (by decide +kernel)]; refine wpAny_pure ?_
  try dsimp only
  try rw [if_neg (by decide)]
  try dsimp only
  refine wpAny_bind (P.len_str (x := z) (t := tz) (by omega) ?_)
  refine wpAny_bind (wpAny_of_eq (a := some ((z.length : Nat) : Int)) rfl ?_)
  try dsimp only
  refine wpAny_bind ?_
  show wpAny _ _ (newObj (.type "reversed") (.fields #[.str z tz, rawInt ((z.length : Int) - 1)])) _ _ _
  refine wpAny_newObj_type ?_
  exact wpAny_pure k
theorem call_rs {z : Str} {tz : Tok} {Q : Value → Shared → Prop} (hz : z.length ≤ sizeLine)
    (k : Q (.ref s.heap.objs.size) { s with heap := s.heap.push (mk z tz ((z.length : Int) - 1)), toks := s.toks + 1 + 1 }) : wpAny (model prog w) A (call (.type "reversed") [.str z tz]) Q E s := by
  refine callType_codes (Q₁ := fun ob s₁ => s₁.TypeIs ob "reversed" ∧ Q ob s₁) called_rt (F.typeCall_reversed_1 _) F.entry_object_init
    (code_rs (A := A.in1) hz ⟨⟨_, Heap.get?_push_size _ rfl, rfl⟩, k⟩) fun ob s₁ q₁ => ?_
  exact ⟨q₁.1, F.args_object_init_2 ob _, object_init_meets called_rt.init.lookup called_rt.made (by decide) prog w A.in1 _ s₁ ⟨q₁.1, rfl, q₁.2⟩⟩
theorem next_rs {it : Addr} {z : Str} {tz : Tok} {i c : Nat} {Q : Option Value → Shared → Prop} (y : Rs s.heap it z tz (i : Int)) (hc : z.cps[i]? = some c) (hz : z.length ≤ sizeLine)
    (k : ∀ h' u, Rs h' it z tz ((i : Int) - 1) → Heap.SameBut it s.heap h' → Q (some (.str ⟨#[c]⟩ u)) { s with heap := h', toks := s.toks + 1 + 1 }) : wpAny (model prog w) A (pyNext (.ref it)) Q E s := by
  obtain ⟨ob, hob, hcl, hda⟩ := id y
  have hi : i < z.cps.size := (Array.getElem?_eq_some_iff.mp hc).1
  have hTS : s.TypeIs (.str z tz) "str" := typeIs_str s z tz
  have hlz : z.length = z.cps.size := rfl
  rw [sizeLine_eq] at hz
  unfold pyNext
  refine wpAny_bind (wpAny_attempt (wpAny_callSpecial?_slot (name := Str.ofString "__next__") y.ty slot_rt_next (wpAny_call_entry slot_rt_next y.ty entry_rt_next ?_ (args_rt_next _))))
  unfold Builtin.«reversed.__next__»; refine wpAny_bind (wpAny_of_eq (a := (Value.ref it, [])) rfl ?_)
  try dsimp only
  refine wpAny_bind (wpAny_field hob hda (x := .str z tz) rfl ?_)
  try dsimp only
  refine wpAny_bind (wpAny_field hob hda (x := rawInt (i : Int)) rfl ?_)
  show wpAny _ _ (if (i : Int) < 0 then _ else _) _ _ s; rw [if_neg (by omega)]
  try dsimp only
  refine wpAny_bind (wpAny_specialOf hTS hasG ?_)
  try dsimp only
  try rw [if_neg (by decide)]
  try dsimp only
  refine wpAny_bind (wpAny_mkInt ?_); refine wpAny_bind (wpAny_attempt ?_)
  have fin : seqIndex? (i : Int) z.length = some i := seqIndex_of (by omega) (by omega)
  refine P.getItem_str (s := { s with toks := s.toks + 1 }) (c := c) (by simp; omega) (by rw [fin]; exact hc) ?_
  try dsimp only
  refine wpAny_bind (wpAny_field (s := { s with toks := s.toks + 1 + 1 }) hob hda (x := rawInt (i : Int)) rfl ?_)
  try dsimp only
  refine wpAny_bind (wpAny_setField (s := { s with toks := s.toks + 1 + 1 }) hob hda (by simp) ?_)
  first
  | refine wpAny_pure ⟨_, rfl, wpAny_pure (k _ _ ?_ (Heap.SameBut.update ..))⟩
  | refine wpAny_bind (wpAny_pure (wpAny_pure ⟨_, rfl, wpAny_pure (k _ _ ?_ (Heap.SameBut.update ..))⟩))
  exact ⟨_, Heap.get?_update_self _ hob (Obj.isFreed_of_fields (Obj.data_mapFields hda _)), (Obj.cls_mapFields ..).trans hcl, by rw [Obj.data_mapFields hda]; simp⟩
theorem end_rs {it : Addr} {z : Str} {tz : Tok} {Q : Option Value → Shared → Prop} (hh : A.handled = none) (y : Rs s.heap it z tz (-1)) (k : ∀ h', Heap.ExtBut it s.heap h' → Q none { s with heap := h' }) : wpAny (model prog w) A (pyNext (.ref it)) Q E s := by
  obtain ⟨ob, hob, hcl, hda⟩ := id y
  unfold pyNext
  refine wpAny_bind (wpAny_attempt (wpAny_callSpecial?_slot (name := Str.ofString "__next__") y.ty slot_rt_next (wpAny_call_entry slot_rt_next y.ty entry_rt_next ?_ (args_rt_next _))))
  unfold Builtin.«reversed.__next__»; refine wpAny_bind (wpAny_of_eq (a := (Value.ref it, [])) rfl ?_)
  try dsimp only
  refine wpAny_bind (wpAny_field hob hda (x := .str z tz) rfl ?_)
  try dsimp only
  refine wpAny_bind (wpAny_field hob hda (x := rawInt (-1)) rfl ?_)
  show wpAny _ _ (if (-1 : Int) < 0 then _ else _) _ _ s; rw [if_pos (by decide)]
  try dsimp only
  refine wpAny_bind (wpAny_rule ?_); refine wpAny_bind ?_
  wp_delta
  refine wpAny_bind (wpAny_setField hob hda (by simp) ?_)
  have ho2 := Heap.get?_update_self (Obj.mapFields (·.setIfInBounds 1 (rawInt (-1)))) hob (Obj.isFreed_of_fields (Obj.data_mapFields hda _))
  refine wpAny_setField (s := { s with heap := s.heap.update it (Obj.mapFields (·.setIfInBounds 1 (rawInt (-1)))) }) ho2 (Obj.data_mapFields hda _) (by simp) ?_
  try dsimp only
  first | show wpAny _ _ (newExc (.type "StopIteration") [] >>= _) _ _ _ | (refine wpAny_bind ?_; show wpAny _ _ (newExc (.type "StopIteration") [] >>= _) _ _ _) | (refine wpAny_bind ?_; wp_delta; show wpAny _ _ (newExc (.type "StopIteration") [] >>= _) _ _ _)
  refine wpAny_bind ?_
  simp only [newExc, newTuple]
  refine wpAny_bind (wpAny_newObj_type ?_ (by size_fits)); refine wpAny_bind (m := firstArgMember _ _) (wpAny_of_eq (a := Value.none) (by first | rfl | (simp only [firstArgMember]; rfl)) ?_)
  refine wpAny_newObj_type ?_ (by size_fits); simp only [raiseNew]
  refine wpAny_bind (wpAny_handled ?_); first | rw [show A.in1.handled = none from hh] | rw [hh]
  refine wpAny_bind (wpAny_pure (wpAny_throw ?_)); refine wpAny_bind (wpAny_isInstance (T := "StopIteration") (b := true) ⟨_, Heap.get?_push_size _ rfl, rfl⟩ isSubtype_stop ?_)
  refine wpAny_pure (k _ ?_)
  refine ((?_ : Heap.ExtBut it s.heap _).push _).push _; exact fun b ob' hb e => (Heap.get?_update_other _ _ (Ne.symm hb)).trans ((Heap.get?_update_other _ _ (Ne.symm hb)).trans e)
theorem iter_rs {it : Addr} {z : Str} {tz : Tok} {i : Int} {Q : Value → Shared → Prop} (y : Rs s.heap it z tz i) (k : Q (.ref it) s) : wpAny (model prog w) A (pyIter (.ref it)) Q E s := by
  refine wpAny_pyIter_slot y.ty slot_rt_iter (wpAny_call_entry slot_rt_iter y.ty entry_rt_iter ?_ (args_rt_iter _))
  show wpAny _ _ (ret (.ref it)) _ _ s; exact wpAny_pure ⟨_, rfl, "reversed", _, y.ty, slot_rt_next.lookup, k⟩
end
/-! the turns -/
def ItsR (z : Str) : It := ⟨fun i _ => i < z.cps.size, fun i H y H' => H' = H ∧ ∃ c, z.cps[z.cps.size - 1 - i]? = some c ∧ y = .str ⟨#[c]⟩, fun i _ => z.cps.size ≤ i⟩
theorem turn_rs {P : Program} {w : World} {K : PySem.W.Frag} {tg : Expr} (it : Addr) (z : Str) (tz : Tok) (hz : z.length ≤ sizeLine) : Turn P w K tg (ItsR z) [it] it (fun i h => i ≤ z.cps.size ∧ Rs h it z tz ((z.cps.size : Int) - 1 - (i : Nat))) where
  mem := by simp
  obj := fun i h st b hb => by
    have eb : b = it := by simpa using hb
    subst eb
    obtain ⟨_, ob, e, c, d⟩ := st
    exact ⟨ob, e, fun y q => by rw [d] at q; cases q⟩
  keep := fun i h h' st k => ⟨st.1, st.2.at fun ob e => k it (by simp) ob e⟩
  item := by
    intro X hP hw hK hc i pins s σ H E I hf st hg; subst hP hw hK
    obtain ⟨f0, f1, f2, f3, f4, f5⟩ := hf it (by simp); obtain ⟨_, hit⟩ := st
    have hgi : i < z.cps.size := hg
    have e1 : (z.cps.size : Int) - 1 - ((i : Nat) : Int) = ((z.cps.size - 1 - i : Nat) : Int) := by omega
    rw [e1] at hit
    have hj : z.cps.size - 1 - i < z.cps.size := by omega
    have hcx : z.cps[z.cps.size - 1 - i]? = some z.cps[z.cps.size - 1 - i] := Array.getElem?_eq_getElem hj
    refine next_rs hit hcx hz fun h' u st' sb => ?_
    have e2 : ((z.cps.size - 1 - i : Nat) : Int) - 1 = (z.cps.size : Int) - 1 - ((i + 1 : Nat) : Int) := by omega
    rw [e2] at st'
    have I1 : Inv X pins σ H { s with heap := h', toks := s.toks + 1 + 1 } := I.turned (t' := s.toks + 1 + 1) (fun b o hb e => (sb.2 b hb).trans e) f0 f1 f3 f4 f5
    obtain ⟨ob, e, c, d⟩ := id st'
    exact ⟨_, rfl, go_of (s := { s with heap := h', toks := s.toks + 1 + 1 }) e c d (by decide) ⟨.str ⟨#[_]⟩, H, I1, ⟨_, rfl⟩, ⟨rfl, _, hcx, rfl⟩, ⟨hgi, st'⟩, fun b hb => (hf b hb).1⟩⟩
  done := by
    intro X hP hw hK hc i pins s σ H E I hf st hg; subst hP hw hK
    obtain ⟨f0, f1, f2, f3, f4, f5⟩ := hf it (by simp); obtain ⟨hin, hit⟩ := st
    have hge : z.cps.size ≤ i := hg
    have e1 : (z.cps.size : Int) - 1 - ((i : Nat) : Int) = -1 := by omega
    rw [e1] at hit
    exact end_rs (I.ok.hd hc) hit fun h' eb => ⟨rfl, I.turned (t' := s.toks) (fun b o hb e => eb b o hb e) f0 f1 f3 f4 f5⟩
  self := fun A i s Q E st h => iter_rs st.2 h
def iRevT (te : TE) : TI := fun σ H R => te σ H fun y H1 => ∃ z, y = .str z ∧ z.length ≤ sizeLine ∧ R (ItsR z) H1
theorem pi_revT {X : Cx} {tg e : Expr} {te : TE} {p pos : Pos} (hg : Gl X "reversed") (hm : X.mg "reversed" = none) (he : PE X e te) (hs : starEach [e] X.env = (false, eval e X.env) :: starEach [] X.env := by rfl) : PI X tg (.Call (.Name "reversed" p) [e] [] pos) (iRevT te) := by
  refine ⟨fun pins s σ H R I h => ?_⟩; refine Call_ (ld_blt I hg hm PyProof.Rows.boot_reversed (PyProof.Rows.callWith_type1 (args_cons (thn (he.run pins s σ H _ I h) fun u s1 ⟨y, H1, I1, r1, q1⟩ => args_nil ?_) hs) hs rfl))
  obtain ⟨z, ey, hz, q⟩ := q1
  subst ey
  obtain ⟨tz, rfl⟩ := r1
  have hn := line63
  refine call_rs hz (iter_rs (i := ((z.length : Nat) : Int) - 1) ⟨_, Heap.get?_push_size _ rfl, rfl, rfl⟩ ?_)
  refine pi_one (tk := s1.toks + 1 + 1) I1 _ (turn_rs _ z tz hz) ⟨Nat.zero_le _, ?_⟩ q
  have e1 : (z.cps.size : Int) - 1 - ((0 : Nat) : Int) = (z.length : Int) - 1 := by
    have : z.length = z.cps.size := rfl
    omega
  rw [e1]
  exact ⟨_, Heap.get?_push_size _ rfl, rfl, rfl⟩
end RX

/-! DI, part 0x: min of a list of data; max, min with default. -/
namespace MX
open PySem PySem.Spec PyProof.Rows L2 PySem.W
section
variable {prog : Program} {w : World} {A : Around} {E : Value → Shared → Prop} {s : Shared}
/-- min of a list of alike data: which item it is -/
theorem min_item {la : Addr} {us : Array Value} {z : PyData} {zs : List PyData} {as : List Addr} {Q : Value → Shared → Prop} (hd : A.handled = none) (il : s.heap.IsList la us) (rd : ReadsAll s.heap us.toList (z :: zs) as) (al : AlikeAll (z :: zs)) (hu : A.units + 1 + PyData.depthAll (z :: zs) < cLine)
    (k : ∀ (i : Nat) u h' tk, us[i]? = some u → (z :: zs).getD i .none = minD z zs → (∀ b o, s.heap.get? b = some o → h'.get? b = some o) → Q u { s with heap := h', toks := tk }) :
    wpAny (model prog w) A (call (.builtin "min") [.ref la]) Q E s := by
  have hn : us.size = zs.length + 1 := readsAll_len rd
  refine call_min_walkH (iter_listW (A := A.in1) hd il fun s₂ e W st hfp hw hk => ?_)
  refine ⟨_, _, _, _, _, _, _, s.heap, _, rfl, W, st, hfp, by omega, hw, hk, cmpIn_lt (A := A.in1) rd al (by show A.units + 1 + _ < _; exact hu), fun u s' hP m => ?_⟩
  obtain ⟨h', tk, rfl, hk'⟩ := moved_old e rfl m
  have e1 : us.size - 1 = zs.length := by omega
  have e2 := (argBest_fold dataLt PyData.none z zs zs.length (Nat.le_refl _)).2
  rw [List.take_length, ← e1] at e2
  exact k _ u h' tk hP e2 hk'
end
def rMinD (K : PySem.W.Frag) : List V → Hp → VK → Prop := fun vs H Q => ∃ (a : Addr) (xs : List V) (z : PyData) (zs : List PyData), vs = [V.ref a] ∧ SqL K H a xs ∧ DpAll K H xs (z :: zs) ∧ AlikeAll (z :: zs) ∧ PyData.depthAll (z :: zs) < 60 ∧
  ∀ (i : Nat) y, xs[i]? = some y → (z :: zs).getD i .none = minD z zs → Q y H
def rDf (K : PySem.W.Frag) (mx : Bool) : List V → List V → Hp → VK → Prop := fun vs ws H Q => ∃ (a : Addr) (ns : List Int) (d : Int), vs = [V.ref a] ∧ ws = [V.int d] ∧ SqL K H a (ns.map V.int) ∧ (ns = [] → Q (.int d) H) ∧ ∀ m, m ∈ ns → (∀ y, y ∈ ns → if mx = true then y ≤ m else m ≤ y) → Q (.int m) H
theorem fold_max : ∀ (ns : List Int) (n : Int), ns.foldl max n ∈ n :: ns ∧ ∀ y ∈ n :: ns, y ≤ ns.foldl max n
  | [], n => ⟨by simp, fun y hy => by rw [List.mem_singleton] at hy; subst hy; exact Int.le_refl _⟩
  | a :: r, n => by
    have ih := fold_max r (max n a)
    rw [List.foldl_cons]
    refine ⟨?_, fun y hy => ?_⟩
    · rcases List.mem_cons.mp ih.1 with h | h
      · rw [h]
        rcases Int.le_total n a with q | q
        · rw [Int.max_eq_right q]; simp
        · rw [Int.max_eq_left q]; simp
      · simp [h]
    · have h1 := ih.2 (max n a) (by simp)
      have h2 := Int.le_max_left n a
      have h3 := Int.le_max_right n a
      rcases List.mem_cons.mp hy with h | h
      · omega
      · rcases List.mem_cons.mp h with h | h
        · omega
        · exact ih.2 y (by simp [h])
theorem fold_min : ∀ (ns : List Int) (n : Int), ns.foldl min n ∈ n :: ns ∧ ∀ y ∈ n :: ns, ns.foldl min n ≤ y
  | [], n => ⟨by simp, fun y hy => by rw [List.mem_singleton] at hy; subst hy; exact Int.le_refl _⟩
  | a :: r, n => by
    have ih := fold_min r (min n a)
    rw [List.foldl_cons]
    refine ⟨?_, fun y hy => ?_⟩
    · rcases List.mem_cons.mp ih.1 with h | h
      · rw [h]
        rcases Int.le_total n a with q | q
        · rw [Int.min_eq_left q]; simp
        · rw [Int.min_eq_right q]; simp
      · simp [h]
    · have h1 := ih.2 (min n a) (by simp)
      have h2 := Int.min_le_left n a
      have h3 := Int.min_le_right n a
      rcases List.mem_cons.mp hy with h | h
      · omega
      · rcases List.mem_cons.mp h with h | h
        · omega
        · exact ih.2 y (by simp [h])
theorem alike_ints (ns : List Int) : AlikeAll (ns.map PyData.int) := by
  refine ⟨fun x hx y hy => ?_, fun x hx => ?_⟩
  · obtain ⟨a, _, rfl⟩ := List.mem_map.mp hx
    obtain ⟨b, _, rfl⟩ := List.mem_map.mp hy
    rfl
  · obtain ⟨a, _, rfl⟩ := List.mem_map.mp hx
    exact fun z => by cases z
theorem depth_is : ∀ ns : List Int, PyData.depthAll (ns.map PyData.int) ≤ 1
  | [] => by simp [PyData.depthAll]
  | a :: r => by have := depth_is r; simp [PyData.depthAll, PyData.depth]; try omega
theorem dpAll_ints {K : PySem.W.Frag} {H : Hp} : ∀ ns : List Int, DpAll K H (ns.map V.int) (ns.map PyData.int)
  | [] => .nil
  | a :: r => .cons (.int a) (dpAll_ints r)
section
variable {X : Cx}
theorem cr_minD (hc : X.calm = true) (hu : X.A.units + 65 < cLine) : CallR X (.builtin "min") (rMinD X.K) := by
  intro pins s σ H vs us Q I r h
  obtain ⟨a, xs, z, zs, rfl, hs, hp, al, dp, q⟩ := h
  obtain ⟨its, rv, hl, _⟩ := I.list hs
  obtain ⟨as, rd⟩ := Dp.readsAll I _ _ _ hp rv
  rw [Vals.ref1 r]
  refine min_item (I.ok.hd hc) hl.isList (by simpa using rd) al (by omega) fun i u h' tk hi he hk => ?_
  have hi' : its[i]? = some u := by simpa using hi
  have hlen := rv.length
  have hlt : i < xs.length := by
    rcases Nat.lt_or_ge i xs.length with c | c
    · exact c
    · rw [List.getElem?_eq_none (by omega)] at hi'; cases hi'
  obtain ⟨u', hu', ru⟩ := rv.get (List.getElem?_eq_getElem hlt)
  rw [hi'] at hu'
  cases hu'
  exact ⟨_, H, I.kept hk, ru, q i _ (List.getElem?_eq_getElem hlt) he⟩
theorem cr_maxDf (hc : X.calm = true) (hu : X.A.units + 65 < cLine) : CallRK X (.builtin "max") [Str.ofString "default"] (rDf X.K true) := by
  intro pins s σ H vs zs us ws Q I r1 r2 h
  obtain ⟨a, ns, d, rfl, rfl, hs, q0, q1⟩ := h
  obtain ⟨its, rv, hl, _⟩ := I.list hs
  obtain ⟨as, rd⟩ := Dp.readsAll I _ _ _ (dpAll_ints ns) rv
  obtain ⟨u, rfl, t, rfl⟩ := Vals.one r2
  rw [Vals.ref1 r1]
  have dd := depth_is ns
  refine max_list_default (I.ok.hd hc) hl.isList (by simpa using rd) (alike_ints ns) (by omega) (fun e h' tk hk => ?_) fun y ys i v h' tk bs e hv rdv hk => ?_
  · exact ⟨.int d, H, I.kept hk, ⟨t, rfl⟩, q0 (by simpa using e)⟩
  · cases ns with
    | nil => simp at e
    | cons n r =>
      simp only [List.map_cons, List.cons.injEq] at e
      obtain ⟨rfl, rfl⟩ := e
      rw [maxD_ints] at rdv
      have f := fold_max r n
      obtain ⟨t', rfl⟩ : ∃ t', v = .int (r.foldl max n) t' := by cases rdv; exact ⟨_, rfl⟩
      exact ⟨.int _, H, I.kept hk, ⟨t', rfl⟩, q1 _ f.1 fun y hy => by rw [if_pos rfl]; exact f.2 y hy⟩
theorem cr_minDf (hc : X.calm = true) (hu : X.A.units + 65 < cLine) : CallRK X (.builtin "min") [Str.ofString "default"] (rDf X.K false) := by
  intro pins s σ H vs zs us ws Q I r1 r2 h
  obtain ⟨a, ns, d, rfl, rfl, hs, q0, q1⟩ := h
  obtain ⟨its, rv, hl, _⟩ := I.list hs
  obtain ⟨as, rd⟩ := Dp.readsAll I _ _ _ (dpAll_ints ns) rv
  obtain ⟨u, rfl, t, rfl⟩ := Vals.one r2
  rw [Vals.ref1 r1]
  have dd := depth_is ns
  refine min_list_default (I.ok.hd hc) hl.isList (by simpa using rd) (alike_ints ns) (by omega) (fun e h' tk hk => ?_) fun y ys i v h' tk bs e hv rdv hk => ?_
  · exact ⟨.int d, H, I.kept hk, ⟨t, rfl⟩, q0 (by simpa using e)⟩
  · cases ns with
    | nil => simp at e
    | cons n r =>
      simp only [List.map_cons, List.cons.injEq] at e
      obtain ⟨rfl, rfl⟩ := e
      rw [minD_ints] at rdv
      have f := fold_min r n
      obtain ⟨t', rfl⟩ : ∃ t', v = .int (r.foldl min n) t' := by cases rdv; exact ⟨_, rfl⟩
      exact ⟨.int _, H, I.kept hk, ⟨t', rfl⟩, q1 _ f.1 fun y hy => by rw [if_neg (by decide)]; exact f.2 y hy⟩
end
end MX

/-! DI, part 1: the code of the Python subset and its reading. -/
namespace DI
open L2
open PySem.Spec
open PySem

section
open PyProof.Rows hiding St
/-- a turn by what the kit's walks of tuples tell -/
theorem turn_walksT {P : Program} {w : World} {K : PySem.W.Frag} {elts : List Expr} {kk : Nat} {tpos : Pos} {it : Addr} {fp wr : List Addr} {n : Nat} {Pt : Nat → Array Value → Prop} {St : Nat → Heap → Prop} {Mid : Nat → Addr → Heap → Prop} {J : It}
    (W : ∀ A : Around, A.handled = none → WalksT P w A it fp wr n Pt St Mid) (hm : it ∈ fp) (hobj : ∀ i h, St i h → ∀ b ∈ fp, ∃ o, h.get? b = some o ∧ ∀ v, o.data ≠ .cell v)
    (hgo : ∀ i H, J.go i H → i < n) (hstop : ∀ i H, J.stop i H → n ≤ i)
    (hself : ∀ (A : Around) (i : Nat) (s : Shared) (Q : Value → Shared → Prop) (E : Value → Shared → Prop), St i s.heap → Q (.ref it) s → wpAny (model P w) A (pyIter (.ref it)) Q E s)
    (hval : ∀ i vals, Pt i vals → ∃ vs : List V, Vals vs vals.toList ∧ vs.length ≤ sizeLine ∧ ∀ (H : Hp) T, H T = none → J.yld i H (.ref T) (upd H T (.tup vs))) :
    Turn P w K (.Tuple elts kk tpos) J fp it (fun i h => i ≤ n ∧ St i h) where
  mem := hm
  obj := fun i h st => hobj i h st.2
  keep := fun i h h' st k => ⟨st.1, (W callerA rfl).frame i h h' st.2 k⟩
  item := by
    intro X hP hw hK hc i pins s σ H E I hf st hg
    subst hP hw hK
    have D := W X.A (I.ok.hd hc)
    refine D.item i s _ _ (hgo i H hg) st.2 fun T vals h' tk hp hT ht hmid hk => ?_
    refine ⟨_, rfl, D.go elts kk tpos i T { s with heap := h', toks := tk } _ _ hmid fun h'' st' hk' => ?_⟩
    obtain ⟨vs, rv, hl, hy⟩ := hval i vals hp
    have hn : H T = none := I.hok.fresh hT
    have ht2 := ht.at fun o e => hk' T o (D.apart i T h' hmid) e
    obtain ⟨ot, e1, e2, nn, e3⟩ := ht2
    have new : ObjOk X.prog X.w (upd H T (.tup vs)) h'' T (.tup vs) := ⟨hl, vals.toList, rv, ⟨ot, e1, e2, nn, by rw [e3]⟩⟩
    have I1 : Inv X pins σ (upd H T (.tup vs)) { s with heap := h'', toks := tk } :=
      I.turnedNew (t' := tk) (ch := wr) (fun c o hb q => hk' c o hb (hk c o hb q)) (fun b hb => hf b (D.sub b hb)) hT new
    refine ⟨.ref T, _, I1, rfl, hy H T hn, ⟨hgo i H hg, st'⟩, fun c hcm => ?_⟩
    obtain ⟨oc, ec, _⟩ := hobj i s.heap st.2 c hcm
    have hlt : c < s.heap.objs.size := Heap.lt_size ec
    rw [upd_ne (Nat.ne_of_lt (Nat.lt_of_lt_of_le hlt hT))]
    exact (hf c hcm).1
  done := by
    intro X hP hw hK hc i pins s σ H E I hf st hg
    subst hP hw hK
    have D := W X.A (I.ok.hd hc)
    have e : i = n := Nat.le_antisymm st.1 (hstop i H hg)
    subst e
    exact D.done s _ _ st.2 fun h' tk hk => ⟨rfl, I.turnedL (t' := tk) (ch := wr) hk fun b hb => hf b (D.sub b hb)⟩
  self := fun A i s Q E st h => hself A i s Q E st.2 h
/-- the turns over zip of two texts: new pairs of signs -/
def Izs (x y : Str) : It := ⟨fun i _ => i < min x.cps.size y.cps.size, fun i H v H' => ∃ T c d, v = .ref T ∧ H T = none ∧ H' = upd H T (.tup [.str ⟨#[c]⟩, .str ⟨#[d]⟩]) ∧ x.cps[i]? = some c ∧ y.cps[i]? = some d, fun i _ => min x.cps.size y.cps.size ≤ i⟩
theorem turn_zipS {P : Program} {w : World} {K : PySem.W.Frag} {elts : List Expr} {kk : Nat} {tpos : Pos} {z TI TO i1 i2 : Addr} {x y : Str} {t u : Tok} (S : ZipSep2 z TI TO i1 i2 [i1] [i2]) :
    Turn P w K (.Tuple elts kk tpos) (Izs x y) (z :: TI :: TO :: ([i1] ++ [i2])) z
      (fun i h => i ≤ min x.cps.size y.cps.size ∧ IsZip h z TI TO .none ∧ IsTupOf2 h TI (.ref i1) (.ref i2) ∧ (∃ a1 a2, IsTupOf2 h TO a1 a2) ∧ h.IsStrIter i1 (strIterType x) x t i ∧ h.IsStrIter i2 (strIterType y) y u i) := by
  refine turn_walksT (fun A hA => WalksT.zipD2 S (Draws.text (A := A.in1) hA i1 x t) (Draws.text (A := A.in1) hA i2 y u)) (by simp) (fun i h st b hb => ?_) (fun i H h => h) (fun i H h => h) (fun A i s Q E st h => ?_) fun i vals hp => ?_
  · obtain ⟨hz, hTI, ⟨a1, a2, hTO⟩, ⟨o1, g1, c1, d1⟩, o2, g2, c2, d2⟩ := st
    have e' : b = z ∨ b = TI ∨ b = TO ∨ b = i1 ∨ b = i2 := by simpa using hb
    rcases e' with q | q | q | q | q
    · rw [q]; exact ⟨_, hz, fun v q => nomatch q⟩
    · rw [q]; exact ⟨_, hTI, fun v q => nomatch q⟩
    · rw [q]; exact ⟨_, hTO, fun v q => nomatch q⟩
    · rw [q]; exact ⟨o1, g1, fun v q => by rw [d1] at q; cases q⟩
    · rw [q]; exact ⟨o2, g2, fun v q => by rw [d2] at q; cases q⟩
  · exact wpAny_pyIter_zip st.1 h
  · obtain ⟨x1, x2, ⟨c, t1, hc, rfl⟩, ⟨d, t2, hd, rfl⟩, rfl⟩ := hp
    exact ⟨[.str ⟨#[c]⟩, .str ⟨#[d]⟩], .cons ⟨_, rfl⟩ (.cons ⟨_, rfl⟩ .nil), by show 2 ≤ sizeLine; decide, fun H T hT => ⟨T, c, d, rfl, hT, rfl, hc, hd⟩⟩
def iZipS (ta : TA) : TI := fun σ H R => ta σ H fun vs H1 => ∃ x y : Str, vs = [.str x, .str y] ∧ R (Izs x y) H1
theorem pi_zipS {X : Cx} {e e2 : Expr} {ta : TA} {p pos tpos : Pos} {elts : List Expr} {kk : Nat} (hg : Gl X "zip") (hm : X.mg "zip" = none) (ha : PA X [e, e2] ta)
    (hs : starEach [e, e2] X.env = (false, eval e X.env) :: starEach [e2] X.env := by rfl) (hpl : (backTo pos (starEach [e2] X.env)).any (·.1) = false := by rfl) :
    PI X (.Tuple elts kk tpos) (.Call (.Name "zip" p) [e, e2] [] pos) (iZipS ta) := by
  refine ⟨fun pins s σ H R I h => ?_⟩
  refine Call_ (ld_blt I hg hm PyProof.Rows.boot_zip (PyProof.Rows.callWith_type1 (thn (ha.run pos pins s σ H _ I h) fun us s1 ⟨vs, H1, I1, r1, q1⟩ => ?_) hs hpl))
  obtain ⟨x, y, ex, q⟩ := q1
  subst ex
  cases r1 with
  | cons r rr =>
    cases rr with
    | cons r' rr =>
      cases rr
      obtain ⟨t, rfl⟩ := r
      obtain ⟨u, rfl⟩ := r'
      have fresh5 : ∀ c, c ∈ (s1.heap.objs.size + 4) :: (s1.heap.objs.size + 2) :: (s1.heap.objs.size + 3) :: ([s1.heap.objs.size] ++ [s1.heap.objs.size + 1]) → FpOk X pins H1 c := fun c hcm => by
        have e' : c = s1.heap.objs.size + 4 ∨ c = s1.heap.objs.size + 2 ∨ c = s1.heap.objs.size + 3 ∨ c = s1.heap.objs.size ∨ c = s1.heap.objs.size + 1 := by simpa using hcm
        have hle : s1.heap.objs.size ≤ c := by
          rcases e' with z | z | z | z | z
          · rw [z]; exact Nat.le_add_right _ _
          · rw [z]; exact Nat.le_add_right _ _
          · rw [z]; exact Nat.le_add_right _ _
          · rw [z]; exact Nat.le_refl _
          · rw [z]; exact Nat.le_add_right _ _
        exact I1.fpOk hle (I1.hok.fresh hle)
      refine zip_begins2 (begins_text x t) (begins_text y u) trivial trivial fun h' hz hTI hTO h1 h2 hsz hk => wpAny_pyIter_zip hz ?_
      have I2 : Inv X pins σ H1 { s1 with heap := h' } := I1.kept (t' := s1.toks) hk
      exact ⟨s1.heap.objs.size + 4, _, _, _, H1, rfl, I2, turn_zipS (zip_sep2 (fp1 := []) (fp2 := []) (by simp) (by simp)), ⟨Nat.zero_le _, hz, hTI, ⟨_, _, hTO⟩, ⟨_, h1, rfl, rfl⟩, ⟨_, h2, rfl, rfl⟩⟩, fresh5, q⟩
/-! enumerate over a tuple -/
set_option maxHeartbeats 1000000 in
theorem meets_enum1 {v : Value} {o : Obj} {H : Heap → Prop} (Bg : Begins v o H) :
    Meets (Builtin.«enumerate.__new__» ⟨[.type "enumerate", v], []⟩) (fun _ R s => H s.heap ∧
      R (.ok (.ret (.ref (s.heap.push o).objs.size))) { s with heap := (s.heap.push o).push { cls := .type "enumerate", data := .fields #[.none, .bool false, .ref s.heap.objs.size, rawInt 0, .none, .none] } }) :=
  .of_wp fun prog w A R s h => by
    obtain ⟨hh0, g, d, tk0, os⟩ := s; obtain ⟨hA, h⟩ := h
    have sub0 := sub_enumerate
    have beg : ∀ {A' : Around} {E : Value → Shared → Prop} {Q : Value → Shared → Prop}, Q (.ref hh0.objs.size) ⟨hh0.push o, g, d, tk0, os⟩ → wpAny (model prog w) A' (pyIter v) Q E ⟨hh0, g, d, tk0, os⟩ :=
      fun q => Bg.iter prog w _ _ ⟨hh0, g, d, tk0, os⟩ _ hA q
    wp_walk using beg
    refine wpAny_stack_any fun st => wpAny_pure ?_
    split
    · rename_i c _ _ _ _ _
      cases (c == Value.type "enumerate")
      · wp_walk using beg
        exact ⟨_, rfl, h⟩
      · wp_walk using beg
        exact ⟨_, rfl, h⟩
    · wp_walk using beg
      exact ⟨_, rfl, h⟩
theorem enum_begins1 {prog : Program} {w : World} {A : Around} {E : Value → Shared → Prop} {s : Shared} {v : Value} {o : Obj} {H : Heap → Prop} {Q : Value → Shared → Prop} (Bg : Begins v o H) (hA : H s.heap)
    (h : ∀ hB1, IsEnum hB1 (s.heap.objs.size + 1) s.heap.objs.size 0 .none → hB1.get? s.heap.objs.size = some o → hB1.objs.size = s.heap.objs.size + 2 →
      (∀ b o, s.heap.get? b = some o → hB1.get? b = some o) → Q (.ref (s.heap.objs.size + 1)) { s with heap := hB1 }) :
    wpAny (model prog w) A (call (.type "enumerate") [v]) Q E s := by
  refine callType_new F.called_enumerate (by decide) (F.typeCall_enumerate_1 _) (F.newCall_enumerate_1 _) (fun q => F.args_object_init_2 q _) F.entry_enumerate_new
    (meets_enum1 Bg) ⟨hA, ?_⟩
  have small : (s.heap.push o).objs.size = s.heap.objs.size + 1 := Heap.size_push ..
  show _ ∧ _
  rw [small]
  have hE : IsEnum ((s.heap.push o).push { cls := .type "enumerate", data := .fields #[.none, .bool false, .ref s.heap.objs.size, rawInt 0, .none, .none] }) (s.heap.objs.size + 1) s.heap.objs.size 0 .none := by
    have := Heap.get?_push_size (s.heap.push o) (o := { cls := .type "enumerate", data := .fields #[.none, .bool false, .ref s.heap.objs.size, rawInt 0, .none, .none] }) rfl
    rw [small] at this; exact this
  refine ⟨⟨_, hE, rfl⟩, h _ hE (Heap.get?_push_of_some _ (Heap.get?_push_size _ Bg.free)) (by rw [Heap.size_push, small]) fun b o x => Heap.get?_push_of_some _ (Heap.get?_push_of_some _ x)⟩
/-- the tuple at a, each item in a fresh pair -/
def IteT (K : PySem.W.Frag) (a : Addr) (n : Nat) : It :=
  ⟨fun i H => ∃ (xs : List V) (x : V), SqT K H a xs ∧ xs.length = n ∧ xs[i]? = some x, fun i H v H' => ∃ T x, v = .ref T ∧ H T = none ∧ H' = upd H T (.tup [.int (i : Nat), x]) ∧ ∀ xs, SqT K H a xs → xs[i]? = some x, fun i H => ∃ xs : List V, SqT K H a xs ∧ xs.length = n ∧ n ≤ i⟩
theorem turn_enumT {P : Program} {w : World} {K : PySem.W.Frag} {elts : List Expr} {kk : Nat} {tpos : Pos} (a e it : Addr) (n : Nat) :
    Turn P w K (.Tuple elts kk tpos) (IteT K a n) [e, it] e (fun i h => i ≤ n ∧ (∃ prev, IsEnum h e it ((i : Nat) : Int) prev) ∧ h.IsTupleIter it a i ∧ e ≠ it) where
  mem := by simp
  obj := fun i h st b inB => by
    obtain ⟨_, ⟨prev, hE⟩, ⟨o, ho, hc, hd⟩, _⟩ := st
    have two : b = e ∨ b = it := by simpa using inB
    rcases two with z | z
    · rw [z]; exact ⟨_, hE, fun v q => nomatch q⟩
    · rw [z]; exact ⟨o, ho, fun v q => by rw [hd] at q; cases q⟩
  keep := fun i h hB1 st k => let ⟨below, ⟨prev, hE⟩, lt_, hN⟩ := st; ⟨below, ⟨prev, k e (by simp) _ hE⟩, lt_.at fun o q => k it (by simp) o q, hN⟩
  item := by
    intro X q1 q2 q3 hc i pins s σ H E I off st step
    subst q1 q2 q3
    obtain ⟨below, ⟨prev, hE⟩, hI, hN⟩ := st
    obtain ⟨xs, x, sq, len_, at_⟩ := step
    obtain ⟨us, rel, p, small⟩ := I.tuple sq
    obtain ⟨uv, atU, relU⟩ := rel.get at_
    have ltE : e < s.heap.objs.size := Heap.lt_size hE
    have ltI : it < s.heap.objs.size := by obtain ⟨_, q, _⟩ := hI; exact Heap.lt_size q
    have apI : a ≠ it := fun z => by
      subst z
      obtain ⟨o1, g1, c1, _⟩ := p
      obtain ⟨o2, g2, c2, _⟩ := hI
      rw [g1] at g2
      cases g2
      rw [c1] at c2
      exact absurd c2 (by decide)
    have apE : e ≠ a := fun z => by
      subst z
      obtain ⟨o1, g1, c1, _⟩ := p
      have hE2 : s.heap.get? e = _ := hE
      rw [g1] at hE2
      cases hE2
      exact absurd c1 (by simp)
    have hh : (X.A.in1).handled = none := I.ok.hd hc
    have lt_ : i < xs.length := by
      rcases Nat.lt_or_ge i xs.length with h | h
      · exact h
      · rw [List.getElem?_eq_none h] at at_; cases at_
    refine wpAny_pyNext_enum_itemC (Draws.tuple (prog := X.prog) (w := X.w) hh it a apI us.toArray) hE ⟨hI, p⟩ (by
      have := rel.length
      simp; omega) hN (by simp [hN, apE]) fun item hB1 tk0 hx' ho hI2 tup hZ kp0 => ?_
    have same : item = uv := by
      have : us[i]? = some item := by simpa using hx'
      rw [atU] at this
      cases this
      rfl
    subst same
    refine ⟨_, rfl, wpAny_letOwnedTupleGo_enum (s := { s with heap := hB1, toks := tk0 + 1 }) ho fun hB2 hE2 but => ?_⟩
    have tup2 : hB2.get? s.heap.objs.size = some { cls := .type "tuple", data := .seq #[.int i tk0, item] } := (but.2 _ (Nat.ne_of_gt ltE)).trans tup
    have fresh : ObjOk X.prog X.w (upd H s.heap.objs.size (.tup [.int (i : Nat), x])) hB2 s.heap.objs.size (.tup [.int (i : Nat), x]) :=
      ⟨by show 2 ≤ sizeLine; decide, [.int i tk0, item], .cons ⟨_, rfl⟩ (.cons relU .nil), ⟨_, tup2, rfl, _, rfl⟩⟩
    have J1 : Inv X pins σ (upd H s.heap.objs.size (.tup [.int (i : Nat), x])) { s with heap := hB2, toks := tk0 + 1 } :=
      I.turnedNew (ch := [e, it]) (fun b ob inB q => (but.2 b (fun z => inB (by simp [z]))).trans (kp0 b ob (fun z => inB (by simp [z])) (fun z => inB (by simp [z])) q)) off (Nat.le_refl _) fresh
    refine ⟨.ref s.heap.objs.size, _, J1, rfl, ⟨_, x, rfl, I.hok.fresh (Nat.le_refl _), rfl, fun ys hy => by rw [I.tuple_inj hy sq]; exact at_⟩, ⟨by omega, ⟨item, ?_⟩, hI2.1.at fun o q => (but.2 it (Ne.symm hN)).trans q, hN⟩, fun b inB => ?_⟩
    · have e1 : ((i + 1 : Nat) : Int) = (i : Int) + 1 := by omega
      rw [e1]; exact hE2
    · have ltB : b < s.heap.objs.size := by
        have two : b = e ∨ b = it := by simpa using inB
        rcases two with z | z
        · rw [z]; exact ltE
        · rw [z]; exact ltI
      rw [upd_ne (Nat.ne_of_lt ltB)]
      exact (off b inB).1
  done := by
    intro X q1 q2 q3 hc i pins s σ H E I off st step
    subst q1 q2 q3
    obtain ⟨below, ⟨prev, hE⟩, hI, hN⟩ := st
    obtain ⟨xs, sq, len_, at_⟩ := step
    obtain ⟨us, rel, p, small⟩ := I.tuple sq
    obtain ⟨g0, g1, g2, g3, g4, g5⟩ := off it (by simp)
    have lenR := rel.length
    have apI : a ≠ it := fun z => by
      subst z
      obtain ⟨o1, g1, c1, _⟩ := p
      obtain ⟨o2, g2, c2, _⟩ := hI
      rw [g1] at g2
      cases g2
      rw [c1] at c2
      exact absurd c2 (by decide)
    have hh : (X.A.in1).handled = none := I.ok.hd hc
    refine wpAny_pyNext_enum_endD (Draws.tuple (prog := X.prog) (w := X.w) hh it a apI us.toArray) hE ⟨by
      have e : us.toArray.size = i := by simp; omega
      rw [e]; exact hI, p⟩ fun hB1 kp1 => ⟨rfl, I.turned (t' := s.toks) (fun b o inB q => kp1 b o inB q) g0 g1 g3 g4 g5⟩
  self := fun A i s Q E st h => let ⟨_, ⟨_, hE⟩, _⟩ := st; wpAny_pyIter_enum hE h
def iEnumT (K : PySem.W.Frag) (ta : TA) : TI := fun σ H R => ta σ H fun vs H1 => ∃ a xs, vs = [.ref a] ∧ SqT K H1 a xs ∧ R (IteT K a xs.length) H1
theorem pi_enumT {X : Cx} {e : Expr} {ta : TA} {p pos tpos : Pos} {elts : List Expr} {kk : Nat} (step : Gl X "enumerate") (hm : X.mg "enumerate" = none) (ha : PA X [e] ta) (hs : starEach [e] X.env = [(false, eval e X.env)] := by rfl) :
    PI X (.Tuple elts kk tpos) (.Call (.Name "enumerate" p) [e] [] pos) (iEnumT X.K ta) := by
  refine ⟨fun pins s σ H R I h => ?_⟩
  refine Call_ (ld_blt I step hm boot_enumerate (PyProof.Rows.callWith_type1 (thn (ha.run pos pins s σ H _ I h) fun us s1 ⟨vs, H1, J1, r1, beg⟩ => ?_) hs rfl))
  obtain ⟨a, xs, ex, sq, q⟩ := beg
  subst ex
  cases r1 with
  | cons r rr =>
    cases rr
    cases r
    obtain ⟨us, rel, pt, small⟩ := J1.tuple sq
    refine enum_begins1 (begins_tuple a us.toArray) pt fun hB1 hE hI hZ kp0 => wpAny_pyIter_enum hE ?_
    have J2 : Inv X pins σ H1 { s1 with heap := hB1 } := J1.kept (t' := s1.toks) kp0
    refine ⟨s1.heap.objs.size + 1, [s1.heap.objs.size + 1, s1.heap.objs.size], _, _, H1, rfl, J2, turn_enumT a (s1.heap.objs.size + 1) s1.heap.objs.size xs.length, ⟨Nat.zero_le _, ⟨.none, hE⟩, ⟨_, hI, rfl, rfl⟩, Nat.succ_ne_self _⟩, fun b inB => ?_, q⟩
    have two : b = s1.heap.objs.size + 1 ∨ b = s1.heap.objs.size := by simpa using inB
    have above : s1.heap.objs.size ≤ b := by
      rcases two with z | z
      · rw [z]; exact Nat.le_add_right _ _
      · rw [z]; exact Nat.le_refl _
    exact J1.fpOk above (J1.hok.fresh above)
end
/-- what the reading hangs on: the written part, the class objects, the globals' values, the callees' promises -/
structure Ev where
  K : PySem.W.Frag
  cls : Nat → Addr
  gv : Nat → V
  sp : Nat → Sp
  /-- the exception classes that may be raised, with their field; the exception that an except suite holds -/
  exs : List (Nat × Str) := []
  ex : Option (Addr × Value × Option Addr) := none

/-- built-in functions -/
inductive Bf where
  | len | int | str | abs | max | min | sum | list | tuple | sorted | all | any | isi | repr
  deriving DecidableEq
/-- methods of built-in types -/
inductive Bm where
  | append | pop | extend | insert | join | find | split | lstrip | indexS | indexL
  deriving DecidableEq

/-- the type of a method's receiver -/
def Bm.ty : Bm → String
  | .append => "list"
  | .pop => "list"
  | .extend => "list"
  | .insert => "list"
  | .join => "str"
  | .find => "str"
  | .split => "str"
  | .lstrip => "str"
  | .indexS => "str"
  | .indexL => "list"
mutual
/-- expressions -/
inductive Xp where
  | v (i : Nat)
  | c (x : V)
  | g (i : Nat)
  | ty (n : String)
  | bin (op : Operator) (a b : Xp)
  | neg (a : Xp)
  | cmp (op : CmpOp) (a b : Xp)
  | chn (o1 o2 : CmpOp) (a b c : Xp)
  | and (a b : Xp)
  | or (a b : Xp)
  | not (a : Xp)
  | ite (t : Tt) (a b : Xp)
  | tup (es : Xps)
  | lst (es : Xps)
  | dct0 | dctT0
  | dct (ks vs : Xps)
  | dget (d k x : Xp)
  | lrg1 (a : Xp)
  | lrg2 (a b : Xp)
  | chn3 (o1 o2 o3 : CmpOp) (a b c d : Xp)
  | ef (i : Nat) (f : Str)
  | ei (i : Nat) (C : Nat)
  | eib (i : Nat) (n : String)
  | ix (a i : Xp)
  | sl (a : Xp) (lo hi : Xpo)
  | rev (a : Xp)
  | fld (C : Nat) (o : Xp) (f : Str)
  | call (f : Nat) (es : Xps)
  | callk (f : Nat) (es ks : Xps)
  | bits (a : Xp)
  | mk (C f : Nat) (es : Xps)
  | meth (m C : Nat) (nm : Str) (o : Xp) (es : Xps)
  | bc (b : Bf) (es : Xps)
  /-- max, min with default -/
  | mxd (mx : Bool) (a d : Xp)
  /-- len(x), x of a class of the text -/
  | lenO (m C : Nat) (es : Xps)
  | bm (m : Bm) (o : Xp) (es : Xps)
  | lc (el : Xp) (tg : Tg) (it : Sq) (ifs : Tto) (own : List Nat)
  | dc (k el : Xp) (tg : Tg) (it : Sq) (ifs : Tto) (own : List Nat)
/-- a slice's part -/
inductive Xpo where
  | no
  | so (e : Xp)
inductive Xps where
  | nil
  | cons (e : Xp) (r : Xps)
/-- tests -/
inductive Tt where
  | tr (e : Xp)
  | cmp (op : CmpOp) (a b : Xp)
  | chn (o1 o2 : CmpOp) (a b c : Xp)
  | chn3 (o1 o2 o3 : CmpOp) (a b c d : Xp)
  | and (a b : Tt)
  | or (a b : Tt)
  | not (a : Tt)
inductive Tto where
  | no
  | so (t : Tt)
/-- what a for walks -/
inductive Sq where
  | lst (e : Xp)
  | tup (e : Xp)
  | txt (e : Xp)
  | rng1 (a : Xp)
  | rng2 (a b : Xp)
  | rng3 (a b c : Xp)
  | enm (e : Xp)
  | zip (a b : Xp)
  | zipS (a b : Xp)
  | rvs (e : Xp)
  | rvT (e : Xp)
  | rvr1 (a : Xp)
  | rvr2 (a b : Xp)
  | any (a b : Sq)
  | enmT (e : Xp)
/-- targets -/
inductive Tg where
  | nm (i : Nat)
  | tup (gs : Tgs)
  | sub (o i : Xp)
inductive Tgs where
  | nil
  | cons (g : Tg) (r : Tgs)
end
mutual
/-- statements -/
inductive Sm where
  | asg (g : Tg) (e : Xp)
  | asl (i : Nat) (el : Xp) (tg : Tg) (it : Sq) (ifs : Tto) (own : List Nat)
  | par (i j : Nat) (a b : Xp)
  | par3 (i j l : Nat) (a b c : Xp)
  | fld (C : Nat) (o : Xp) (f : Str) (e : Xp)
  | aug (i : Nat) (op : Operator) (e : Xp)
  | augf (C : Nat) (o : Xp) (f : Str) (op : Operator) (e : Xp)
  | exp (e : Xp)
  | ret (e : Xp)
  | retN
  | pass
  | brk
  | cnt
  | ite (t : Tt) (a b : Sms)
  | whl (t : Tt) (b : Sms)
  | for_ (tg : Tg) (it : Sq) (b : Sms)
  | rai (C : Nat) (f : Str) (es : Xps)
  | tryA (b : Sms) (C : Nat) (i : Nat) (s : Sms)
  | tryO (b : Sms) (C : Nat) (s : Sms)
  | tryM (b : Sms) (hs : Hds)
  | ddel (d k : Xp)
  | never
inductive Sms where
  | nil
  | cons (s : Sm) (r : Sms)
/-- except clauses without a name -/
inductive Hds where
  | nil
  | cons (C : Nat) (s : Sms) (r : Hds)
end

/-! ### operations by values -/
section
variable (K : PySem.W.Frag)
/-- + of two things of the heap -/
inductive RCat (a b : Addr) (H : Hp) (Q : VK) : Prop
  | lst {xs ys : List V} (ha : H a = some (.lst xs)) (hb : H b = some (.lst ys)) (hz : xs.length + ys.length ≤ sizeLine) (q : ∀ p, H p = none → Q (.ref p) (upd H p (.lst (xs ++ ys))))
  | tup {xs ys : List V} (ha : SqT K H a xs) (hb : SqT K H b ys) (hz : xs.length + ys.length ≤ sizeLine) (q1 : xs = [] → Q (.ref b) H) (q2 : xs ≠ [] → ys = [] → Q (.ref a) H)
      (q3 : xs ≠ [] → ys ≠ [] → ∀ p, H p = none → Q (.ref p) (upd H p (.tup (xs ++ ys))))
def rAdd : R2 := fun x y H Q => match x, y with
  | .int i, .int j => Q (.int (i + j)) H
  | .str a, .str b => a.length + b.length ≤ sizeLine ∧ Q (.str (a ++ b)) H
  | .ref a, .ref b => RCat K a b H Q
  | _, _ => False
def rSub : R2 := fun x y H Q => match x, y with
  | .int i, .int j => Q (.int (i - j)) H
  | _, _ => False
inductive RRep (a : Addr) (k : Int) (H : Hp) (Q : VK) : Prop
  | lst {xs : List V} (ha : H a = some (.lst xs)) (h1 : -(2 ^ 63) ≤ k) (h2 : k < 2 ^ 63) (hz : xs.length * k.toNat ≤ sizeLine) (q : ∀ p, H p = none → Q (.ref p) (upd H p (.lst (List.replicate k.toNat xs).flatten)))
def rMul : R2 := fun x y H Q => match x, y with
  | .int i, .int j => CMul i j ∧ Q (.int (i * j)) H
  | .str a, .int k => MulOk a k ∧ Q (.str (Txt.mul a k)) H
  | .ref a, .int k => RRep a k H Q
  | _, _ => False
def rFdv : R2 := fun x y H Q => match x, y with
  | .int i, .int j => (0 < j ∧ j.natAbs.log2 < 9000) ∧ Q (.int (i / j)) H
  | _, _ => False
def rMod : R2 := fun x y H Q => match x, y with
  | .int i, .int j => 0 < j ∧ Q (.int (i % j)) H
  | _, _ => False
def rPow : R2 := fun x y H Q => match x, y with
  | .int i, .int j => CPow i j ∧ Q (.int (i ^ j.toNat)) H
  | _, _ => False
def rShl : R2 := fun x y H Q => match x, y with
  | .int i, .int j => (CPow i j ∨ CShl i j) ∧ Q (.int (i * 2 ^ j.toNat)) H
  | _, _ => False
def rShr : R2 := fun x y H Q => match x, y with
  | .int i, .int j => 0 ≤ j ∧ Q (.int (i / 2 ^ j.toNat)) H
  | _, _ => False
def rAnd : R2 := fun x y H Q => match x, y with
  | .int i, .int j => Q (.int (Builtin.bitAnd i j)) H
  | _, _ => False
def rOr : R2 := fun x y H Q => match x, y with
  | .int i, .int j => Q (.int (Builtin.bitOr i j)) H
  | _, _ => False
def rXor : R2 := fun x y H Q => match x, y with
  | .int i, .int j => Q (.int (Builtin.bitXor i j)) H
  | _, _ => False
def rBin : Operator → R2
  | .Add => rAdd K
  | .Sub => rSub
  | .Mult => rMul
  | .FloorDiv => rFdv
  | .Mod => rMod
  | .Pow => rPow
  | .LShift => rShl
  | .RShift => rShr
  | .BitAnd => rAnd
  | .BitOr => rOr
  | .BitXor => rXor
  | _ => fun _ _ _ _ => False

/-- data of any depth, dicts too -/
def kD : Key → PyData
  | .inl i => .int i
  | .inr x => .str x
mutual
inductive Dq (H : Hp) : V → PyData → Prop
  | non : Dq H .non .none
  | bl (b : Bool) : Dq H (.bl b) (.bool b)
  | int (i : Int) : Dq H (.int i) (.int i)
  | str (x : Str) : Dq H (.str x) (.str x)
  | lst {a : Addr} {xs : List V} {ds : List PyData} (h : SqL K H a xs) (r : DqAll H xs ds) : Dq H (.ref a) (.list ds)
  | tup {a : Addr} {xs : List V} {ds : List PyData} (h : SqT K H a xs) (r : DqAll H xs ds) : Dq H (.ref a) (.tuple ds)
  | dic {a : Addr} {kvs : List (Key × V)} {ds : List PyData} (h : H a = some (.dK kvs)) (r : DqAll H (kvs.map (·.2)) ds) : Dq H (.ref a) (.dict ((kvs.map fun kv => kD kv.1).zip ds))
inductive DqAll (H : Hp) : List V → List PyData → Prop
  | nil : DqAll H [] []
  | cons {x : V} {xs : List V} {d : PyData} {ds : List PyData} (h : Dq H x d) (r : DqAll H xs ds) : DqAll H (x :: xs) (d :: ds)
end
variable {K} in
mutual
theorem Dq.dp {H : Hp} : ∀ {x : V} {d : PyData}, Dq K H x d → d.hasDict = false → Dp K H x d
  | _, _, .non, _ => .non
  | _, _, .bl b, _ => .bl b
  | _, _, .int i, _ => .int i
  | _, _, .str x, _ => .str x
  | _, _, .lst h r, n => .lst h (r.dp n)
  | _, _, .tup h r, n => .tup h (r.dp n)
  | _, _, .dic h r, n => by cases n
theorem DqAll.dp {H : Hp} : ∀ {xs : List V} {ds : List PyData}, DqAll K H xs ds → PyData.hasDictAll ds = false → DpAll K H xs ds
  | _, _, .nil, _ => .nil
  | _, _, .cons (d := d) (ds := ds) h r, n => by
    have n : (d.hasDict || PyData.hasDictAll ds) = false := n
    rw [Bool.or_eq_false_iff] at n
    exact .cons (h.dp n.1) (r.dp n.2)
end
theorem shaped_nd {d : PyData} (h : SeqAt.shaped d = true) : d.hasDict = false := by
  unfold SeqAt.shaped at h
  rw [Bool.and_eq_true] at h
  exact PyData.hasDict_of_canLay d h.1
/-- == by values; Q of the answer -/
inductive REq (x y : V) (H : Hp) (Q : Bool → Prop) : Prop
  | scal (h : scal x y = true) (q : Q (decide (x = y)))
  | deep {d e : PyData} (hd : Dq K H x d) (he : Dq K H y e) (sd : SeqAt.shaped d = true) (se : SeqAt.shaped e = true) (q : Q (PyData.eqv d e))
def rEqB (x y : V) (H : Hp) (Q : Bool → Prop) : Prop := match x, y with
  | .int i, .int j => Q (decide (i = j))
  | .str i, .str j => Q (decide (i = j))
  | .bl i, .bl j => Q (decide (i = j))
  | x, y => REq K x y H Q
/-- in by values -/
inductive RIn (x : V) (b : Addr) (H : Hp) (Q : Bool → Prop) : Prop
  | flat {xs : List V} (h : SqL K H b xs ∨ SqT K H b xs) (fx : flatV x = true) (fs : xs.all flatV = true) (q : Q (inV x xs))
  | dict {o : Option V} (h : DGet H b x o) (q : Q o.isSome)
  | deep {d : PyData} {ds : List PyData} (hd : Dq K H x d) (he : Dq K H (.ref b) (.list ds)) (sd : SeqAt.shaped d = true) (se : SeqAt.shaped (.list ds) = true) (q : Q (ds.any fun z => PyData.eqv z d))
inductive RInS (x z : Str) (Q : Bool → Prop) : Prop
  | sign (c : Nat) (h : x = ⟨#[c]⟩) (q : Q (decide (c ∈ z.cps.toList)))
  | text (q : Q (!(Builtin.Str.occurrences z x 0 z.length 1).isEmpty))
def rInB (x y : V) (H : Hp) (Q : Bool → Prop) : Prop := match y with
  | .str z => (match x with
    | .str a => RInS a z Q
    | _ => False)
  | .ref b => RIn K x b H Q
  | _ => False
/-- is, where one side is None -/
def rIsB (x y : V) (Q : Bool → Prop) : Prop := (y = .non ∧ Q (decide (x = .non))) ∨ ∃ a b : Bool, x = .bl a ∧ y = .bl b ∧ Q (decide (a = b))
inductive RLtR (a b : Addr) (H : Hp) (Q : Bool → Prop) : Prop
  | tup {ns ms : List Int} (ha : SqT K H a (ns.map V.int)) (hb : SqT K H b (ms.map V.int)) (q : Q (HT.lexLt ns ms))
def rLtB (x y : V) (H : Hp) (Q : Bool → Prop) : Prop := match x, y with
  | .int i, .int j => Q (decide (i < j))
  | .str i, .str j => Q (decide (i.cps.toList < j.cps.toList))
  | .ref a, .ref b => RLtR K a b H Q
  | _, _ => False
def rLeB (x y : V) (Q : Bool → Prop) : Prop := match x, y with
  | .int i, .int j => Q (decide (i ≤ j))
  | .str i, .str j => Q (!decide (j.cps.toList < i.cps.toList))
  | _, _ => False
def rGtB (x y : V) (Q : Bool → Prop) : Prop := match x, y with
  | .int i, .int j => Q (decide (j < i))
  | .str i, .str j => Q (decide (j.cps.toList < i.cps.toList))
  | _, _ => False
def rGeB (x y : V) (Q : Bool → Prop) : Prop := match x, y with
  | .int i, .int j => Q (decide (j ≤ i))
  | .str i, .str j => Q (!decide (i.cps.toList < j.cps.toList))
  | _, _ => False
/-- a comparison by values; Q of the answer -/
def rCmpB : CmpOp → V → V → Hp → (Bool → Prop) → Prop
  | .Eq => fun x y H Q => rEqB K x y H Q
  | .NotEq => fun x y H Q => rEqB K x y H fun b => Q (!b)
  | .Lt => fun x y H Q => rLtB K x y H Q
  | .LtE => fun x y _ Q => rLeB x y Q
  | .Gt => fun x y _ Q => rGtB x y Q
  | .GtE => fun x y _ Q => rGeB x y Q
  | .In => fun x y H Q => rInB K x y H Q
  | .NotIn => fun x y H Q => rInB K x y H fun b => Q (!b)
  | .Is => fun x y _ Q => rIsB x y Q
  | .IsNot => fun x y _ Q => rIsB x y fun b => Q (!b)
def rCmp (op : CmpOp) : R2 := fun x y H Q => rCmpB K op x y H fun b => Q (.bl b) H

/-- a subscript by values -/
inductive RIxR (a : Addr) (y : V) (H : Hp) (Q : VK) : Prop
  | lst {xs : List V} {i : Int} {v : V} (h : SqL K H a xs) (e : y = .int i) (hv : atI xs i = some v) (q : Q v H)
  | tup {xs : List V} {i : Int} {v : V} (h : SqT K H a xs) (e : y = .int i) (hv : atI xs i = some v) (q : Q v H)
  | dict {v : V} (h : DGet H a y (some v)) (q : Q v H)
def rIxA : R2 := fun x y H Q => match x with
  | .str z => ∃ i c, y = .int i ∧ z.length ≤ sizeLine ∧ atI z.cps.toList i = some c ∧ Q (.str ⟨#[c]⟩) H
  | .ref a => RIxR K a y H Q
  | _ => False
/-- a slice by values -/
inductive RSlR (a : Addr) (lo hi : Option Int) (H : Hp) (Q : VK) : Prop
  | lst {xs : List V} (h : SqL K H a xs) (q : ∀ p, H p = none → Q (.ref p) (upd H p (.lst (cutV xs lo hi))))
  | tup {xs : List V} (h : SqT K H a xs) (q1 : HT.sIx xs.length 0 lo = 0 ∧ HT.sIx xs.length xs.length hi = xs.length → Q (.ref a) H)
      (q2 : ¬ (HT.sIx xs.length 0 lo = 0 ∧ HT.sIx xs.length xs.length hi = xs.length) → ∀ p, H p = none → Q (.ref p) (upd H p (.tup (cutV xs lo hi))))
def rSlAny : V → Option Int → Option Int → Hp → VK → Prop := fun x lo hi H Q => match x with
  | .str z => z.length ≤ sizeLine ∧ Q (.str (cutS z lo hi)) H
  | .ref a => RSlR K a lo hi H Q
  | _ => False
/-- o[i] = v by values -/
inductive RSetR (a : Addr) (y v : V) (H : Hp) (Q : Hp → Prop) : Prop
  | lst {xs : List V} {k : Int} {j : Nat} (h : H a = some (.lst xs)) (e : y = .int k) (hj : ixN xs.length k = some j) (q : Q (upd H a (.lst (xs.set j v))))
  | dict {H' : Hp} (h : DPut H a y v H') (q : Q H')
def rSetA : TSet := fun o i v H Q => match o with
  | .ref a => RSetR a i v H Q
  | _ => False
/-- truth by values -/
inductive RTru (a : Addr) (H : Hp) (Q : Bool → Prop) : Prop
  | lst {xs : List V} (h : SqL K H a xs) (q : Q (!xs.isEmpty))
  | tup {xs : List V} (h : SqT K H a xs) (q : Q (!xs.isEmpty))
  | dict {kvs : List (Key × V)} (h : H a = some (.dK kvs)) (q : Q (!kvs.isEmpty))
def rTru (x : V) (H : Hp) (Q : Bool → Prop) : Prop := match x with
  | .non => Q false
  | .bl b => Q b
  | .int i => Q (decide (i ≠ 0))
  | .str y => y.length ≤ sizeLine ∧ Q (decide (y.length ≠ 0))
  | .ref p => RTru K p H Q
  | _ => False
/-- the length by values -/
inductive RLen (a : Addr) (H : Hp) (Q : Nat → Prop) : Prop
  | lst {xs : List V} (h : SqL K H a xs) (q : Q xs.length)
  | tup {xs : List V} (h : SqT K H a xs) (q : Q xs.length)
  | dict {kvs : List (Key × V)} (h : H a = some (.dK kvs)) (q : Q kvs.length)
  | dicT {kvs : List (List Key × V)} (h : H a = some (.dT kvs)) (q : Q kvs.length)
/-- list(x) -/
inductive RLst (a : Addr) (H : Hp) (Q : VK) : Prop
  | lst {xs : List V} (h : SqL K H a xs) (q : ∀ p, H p = none → Q (.ref p) (upd H p (.lst xs)))
  | tup {xs : List V} (h : SqT K H a xs) (q : ∀ p, H p = none → Q (.ref p) (upd H p (.lst xs)))
  | dict {kvs : List (Key × V)} (h : Rd H a (.dK kvs)) (q : ∀ p, H p = none → Q (.ref p) (upd H p (.lst (kvs.map fun kv => kV kv.1))))
/-- tuple(x) -/
inductive RTup (a : Addr) (H : Hp) (Q : VK) : Prop
  | lst {xs : List V} (h : SqL K H a xs) (q : ∀ p, H p = none → Q (.ref p) (upd H p (.tup xs)))
  | tup {xs : List V} (h : SqT K H a xs) (q : Q (.ref a) H)
inductive RSrt (a : Addr) (H : Hp) (Q : VK) : Prop
  | dct {kvs : List (Key × V)} {ks : List Int} (h : Rd H a (.dK kvs)) (e : kvs.map (·.1) = ks.map Sum.inl) (hl : ks.length < 64) (q : ∀ (ys : List Int) (p : Addr), ys.Perm ks → ys.Pairwise (· ≤ ·) → H p = none → Q (.ref p) (upd H p (.lst (ys.map V.int))))
  | srt {ns : List Int} (h : SqL K H a (ns.map V.int)) (q : ∀ (ms : List Int) (p : Addr), ms.Perm ns → ms.Pairwise (· ≤ ·) → H p = none → Q (.ref p) (upd H p (.lst (ms.map V.int))))
def rBf : Bf → List V → Hp → VK → Prop
  | .len => fun vs H Q => match vs with
    | [.str s] => s.length ≤ sizeLine ∧ Q (.int s.length) H
    | [.ref a] => RLen K a H fun n => Q (.int n) H
    | _ => False
  | .int => fun vs H Q => match vs with
    | [.int i] => Q (.int i) H
    | [.bl b] => Q (.int (if b = true then 1 else 0)) H
    | [.str a] => ∃ n, PySem.intText? a = some n ∧ a.length ≤ 640 ∧ Q (.int n) H
    | _ => False
  | .str => fun vs H Q => match vs with
    | [.int i] => i.natAbs.log2 < 1920 ∧ Q (.str (toString i)) H
    | [.str a] => Q (.str a) H
    | _ => False
  | .abs => fun vs H Q => match vs with
    | [.int i] => Q (.int (if i < 0 then -i else i)) H
    | _ => False
  | .max => fun vs H Q => match vs with
    | [.int i, .int j] => Q (.int (if j > i then j else i)) H
    | [.ref a] => ∃ ns : List Int, SqL K H a (ns.map V.int) ∧ 0 < ns.length ∧ ∀ m, m ∈ ns → (∀ y, y ∈ ns → y ≤ m) → Q (.int m) H
    | _ => False
  | .min => fun vs H Q => match vs with
    | [.int i, .int j] => Q (.int (if j < i then j else i)) H
    | [.ref a] => (∃ ns : List Int, SqL K H a (ns.map V.int) ∧ 0 < ns.length ∧ ∀ m, m ∈ ns → (∀ y, y ∈ ns → m ≤ y) → Q (.int m) H) ∨ MX.rMinD K [.ref a] H Q
    | _ => False
  | .sum => fun vs H Q => match vs with
    | [.ref a] => ∃ ns : List Int, SqL K H a (ns.map V.int) ∧ Q (.int ns.sum) H
    | _ => False
  | .list => fun vs H Q => match vs with
    | [.ref a] => RLst K a H Q
    | _ => False
  | .tuple => fun vs H Q => match vs with
    | [.ref a] => RTup K a H Q
    | _ => False
  | .sorted => fun vs H Q => match vs with
    | [.ref a] => RSrt K a H Q
    | _ => False
  | .all => fun vs H Q => match vs with
    | [.ref a] => ∃ bs : List Bool, SqL K H a (bs.map V.bl) ∧ Q (.bl (bs.all id)) H
    | _ => False
  | .any => fun vs H Q => match vs with
    | [.ref a] => ∃ bs : List Bool, SqL K H a (bs.map V.bl) ∧ Q (.bl (bs.any id)) H
    | _ => False
  | .isi => fun vs H Q => match vs with
    | [x, c] => ∃ (t u : Value) (b : Bool), ClsV c u ∧ TyX K H x t ∧ PySem.W.kitOne K t u = some b ∧ Q (.bl b) H
    | _ => False
  | .repr => fun vs H Q => match vs with
    | [x] => ∃ d : PyData, Dq K H x d ∧ d.showable = true ∧ d.depth < 63 ∧ d.shown.length ≤ sizeLine ∧ Q (.str d.shown) H
    | _ => False
def rBm : Bm → V → List V → Hp → VK → Prop
  | .append => fun x vs H Q => match x, vs with
    | .ref a, [y] => ∃ xs, H a = some (.lst xs) ∧ xs.length < sizeLine ∧ Q .non (upd H a (.lst (xs ++ [y])))
    | _, _ => False
  | .pop => fun x vs H Q => match x, vs with
    | .ref a, [] => ∃ xs y, H a = some (.lst xs) ∧ xs[xs.length - 1]? = some y ∧ Q y (upd H a (.lst xs.dropLast))
    | .ref a, [.int i] => ∃ xs k y, H a = some (.lst xs) ∧ -(2 ^ 63) ≤ i ∧ i < 2 ^ 63 ∧ seqIndex? i xs.length = some k ∧ xs[k]? = some y ∧ Q y (upd H a (.lst (xs.eraseIdx k)))
    | _, _ => False
  | .extend => fun x vs H Q => match x, vs with
    | .ref a, [.ref b] => ∃ xs zs, H a = some (.lst xs) ∧ H b = some (.lst zs) ∧ xs.length + zs.length ≤ sizeLine ∧ Q .non (upd H a (.lst (xs ++ zs)))
    | _, _ => False
  | .insert => fun x vs H Q => match x, vs with
    | .ref a, [.int i, y] => ∃ xs, H a = some (.lst xs) ∧ xs.length < sizeLine ∧ 0 ≤ i ∧ i < 2 ^ 63 ∧ Q .non (upd H a (.lst (xs.take i.toNat ++ [y] ++ xs.drop i.toNat)))
    | _, _ => False
  | .find => fun x vs H Q => match x, vs with
    | .str a, [.str b] => Q (.int (Txt.find a b)) H
    | _, _ => False
  | .split => fun x vs H Q => match x, vs with
    | .str a, [.str b] => (b.length == 0) = false ∧ a.length + 2 ≤ sizeLine ∧ ∀ p, H p = none → Q (.ref p) (upd H p (.lst ((Txt.split a b).map V.str)))
    | _, _ => False
  | .lstrip => fun x vs H Q => match x, vs with
    | .str a, [.str b] => a.length ≤ sizeLine ∧ Q (.str (Txt.lstripChars a b)) H
    | _, _ => False
  | .indexS => fun x vs H Q => match x, vs with
    | .str a, [.str b] => ∃ k : Nat, Txt.index0 a b = some k ∧ Q (.int k) H
    | _, _ => False
  | .indexL => fun x vs H Q => match x, vs with
    | .ref a, [y] => ∃ (ys : List V) (j : Nat) (z : V), SqL K H a ys ∧ flatV y = true ∧ ys.all flatV = true ∧ ys[j]? = some z ∧ eqV z y = true ∧ (∀ (m : Nat) (z' : V), m < j → ys[m]? = some z' → eqV z' y = false) ∧ Q (.int j) H
    | _, _ => False
  | .join => fun x vs H Q => match x, vs with
    | .str a, [.ref p] => ∃ ys : List Str, (SqL K H p (ys.map V.str) ∨ SqT K H p (ys.map V.str)) ∧ (ys.map (·.length)).sum + ys.length * a.length ≤ 16777216 ∧ Q (.str (Txt.join a ys)) H
    | _, _ => False
end

/-! ### the reading -/
def tV (i : Nat) : TE := fun σ H Q => match σ[i]? with
  | some (some x) => Q x H
  | _ => False
def tIfV (ta : TE) (f : Bool → St → Hp → VK → Prop) : TE := fun σ H Q => ta σ H fun x H1 => match x with
  | .bl b => f b σ H1 Q
  | _ => False
def tCp (r : V → V → Hp → (Bool → Prop) → Prop) (ta tb : TE) : TT := fun σ H Q => ta σ H fun x H1 => tb σ H1 fun y H2 => r x y H2 fun b => Q b H2
/-- the exception that an except suite holds: its field; isinstance of it -/
def tEf (v : Ev) (i : Nat) (f : Str) : TE := fun σ H Q => ∃ (a dd : Addr) (j : Nat) (fs : List (Str × V)) (z : V), v.ex = some (a, .ref (v.cls j), some dd) ∧ (j, f) ∈ v.exs ∧ σ[i]? = some (some (.ref a)) ∧ H dd = some (.xd fs) ∧ fs.lookup f = some z ∧ Q z H
def tEi (v : Ev) (i : Nat) (c : Value) : TE := fun σ H Q => ∃ (a dd : Addr) (j : Nat) (f : Str) (fs : List (Str × V)) (b : Bool), v.ex = some (a, .ref (v.cls j), some dd) ∧ (j, f) ∈ v.exs ∧ σ[i]? = some (some (.ref a)) ∧ H dd = some (.xd fs) ∧ PySem.W.kitOne v.K (.ref (v.cls j)) c = some b ∧ Q (.bl b) H
def tCh3 (r r' r'' : V → V → Hp → (Bool → Prop) → Prop) (ta tb tc td : TE) : TT := fun σ H Q => ta σ H fun x H1 => tb σ H1 fun y H2 => r x y H2 fun b =>
  if b = true then tc σ H2 fun z H3 => r' y z H3 fun b' => if b' = true then td σ H3 fun u H4 => r'' z u H4 fun b2 => Q b2 H4 else Q false H3 else Q false H2
/-- a raise, by its class and the dict of its own -/
def tRai (C : Addr) (f : Str) (ta : TA) : St → Hp → XK → Prop := fun σ H Q => ta σ H fun vs H1 => ∃ y, vs = [y] ∧ ∀ dx, H1 dx = none → Q (.ref C) (some dx) (upd H1 dx (.xd [(f, y)]))
def tCh (r r' : V → V → Hp → (Bool → Prop) → Prop) (ta tb tc : TE) : TT := fun σ H Q => ta σ H fun x H1 => tb σ H1 fun y H2 => r x y H2 fun b =>
  if b = true then tc σ H2 fun z H3 => r' y z H3 fun b' => Q b' H3 else Q false H2
def tFl (C : Addr) (ta : TE) (f : Str) : TE := fun σ H Q => ta σ H fun x H1 => ∃ a dx fs v, x = .ref a ∧ H1 a = some (.ins C dx fs) ∧ fs.lookup f = some v ∧ Q v H1

def Xps.len : Xps → Nat
  | .nil => 0
  | .cons _ r => r.len + 1
mutual
def Xp.den (v : Ev) : Xp → WX → TE
  | .v i, _ => tV i
  | .c x, _ => tC x
  | .g i, _ => tC (v.gv i)
  | .ty n, _ => tC (.ty n)
  | .bin op a b, W => tOp (rBin v.K op) (a.den v W) (b.den v W)
  | .neg a, W => tUn (rU fun i => .int (-i)) (a.den v W)
  | .cmp op a b, W => tOp (rCmp v.K op) (a.den v W) (b.den v W)
  | .chn o1 o2 a b c, W => fun σ H Q => tCh (rCmpB v.K o1) (rCmpB v.K o2) (a.den v W) (b.den v W) (c.den v W) σ H fun k H1 => Q (.bl k) H1
  | .and a b, W => tIfV (a.den v W) fun k σ H Q => if k = true then b.den v W σ H Q else Q (.bl false) H
  | .or a b, W => tIfV (a.den v W) fun k σ H Q => if k = true then Q (.bl true) H else b.den v W σ H Q
  | .not a, W => tIfV (a.den v W) fun k _ H Q => Q (.bl (!k)) H
  | .ite t a b, W => tIf (t.den v W) (a.den v W) (b.den v W)
  | .tup es, W => tTup (es.den v W)
  | .lst es, W => tLst (es.den v W)
  | .dct0, _ => tDNewK
  | .dctT0, _ => tDNewT
  | .dct ks vs, W => tDisp ((ks.dens v W).zip (vs.dens v W))
  | .dget d k x, W => tDGet2 (d.den v W) (k.den v W) (x.den v W)
  | .lrg1 a, W => tLstRg (tRg1 (a.den v W))
  | .lrg2 a b, W => tLstRg (tRg2 (a.den v W) (b.den v W))
  | .chn3 o1 o2 o3 a b c d, W => fun σ H Q => tCh3 (rCmpB v.K o1) (rCmpB v.K o2) (rCmpB v.K o3) (a.den v W) (b.den v W) (c.den v W) (d.den v W) σ H fun k H1 => Q (.bl k) H1
  | .ef i f, _ => tEf v i f
  | .ei i C, _ => tEi v i (.ref (v.cls C))
  | .eib i n, _ => tEi v i (.type n)
  | .ix a i, W => tOp (rIxA v.K) (a.den v W) (i.den v W)
  | .sl a lo hi, W => tSl (rSlAny v.K) (a.den v W) (lo.den v W) (hi.den v W)
  | .rev a, W => tRevL v.K (a.den v W)
  | .fld C o f, W => tFl (v.cls C) (o.den v W) f
  | .call f es, W => fun σ H Q => es.den v W σ H fun vs H1 => v.sp f vs H1 Q fun c d H2 => W c d σ H2
  | .callk f es ks, W => fun σ H Q => es.den v W σ H fun vs H1 => ks.den v W σ H1 fun zs H2 => zs.length = ks.len ∧ v.sp f (vs ++ zs) H2 Q fun c d H3 => W c d σ H3
  | .bits a, W => tBits (a.den v W)
  | .mk C f es, W => fun σ H Q => es.den v W σ H fun vs H1 => ∀ x dx, H1 x = none → H1 dx = none → dx ≠ x →
      v.sp f (.ref x :: vs) (upd (upd H1 dx (.own x)) x (.ins (v.cls C) dx [])) (fun u H2 => u = .non ∧ Q (.ref x) H2) fun c d H2 => W c d σ H2
  | .meth m C nm o es, W => fun σ H Q => o.den v W σ H fun x H1 => ∃ a dx fs, x = .ref a ∧ H1 a = some (.ins (v.cls C) dx fs) ∧ fs.lookup nm = none ∧
      es.den v W σ H1 fun vs H2 => v.sp m (.ref a :: vs) H2 Q fun c d H3 => W c d σ H3
  | .bc b es, W => fun σ H Q => es.den v W σ H fun vs H1 => rBf v.K b vs H1 Q
  | .lenO m C es, W => fun σ H Q => es.den v W σ H fun vs H1 => ∃ a dx fs, vs = [V.ref a] ∧ H1 a = some (.ins (v.cls C) dx fs) ∧ v.sp m [V.ref a] H1 (fun y H2 => ∃ n : Int, y = .int n ∧ 0 ≤ n ∧ n < 2 ^ 63 ∧ Q (.int n) H2) fun _ _ _ => False
  | .bm m o es, W => fun σ H Q => o.den v W σ H fun x H1 => tyV v.K m.ty x H1 ∧ es.den v W σ H1 fun vs H2 => rBm v.K m x vs H2 Q
  | .mxd mx a d, W => tCKw (MX.rDf v.K mx) (tCons (a.den v W) tNil) (tCons (d.den v W) tNil)
  | .dc k el tg it ifs own, W => tDc (it.den v W) (tg.den v fun _ _ _ _ => False) (ifs.den v fun _ _ _ _ => False) (k.den v fun _ _ _ _ => False) (el.den v fun _ _ _ _ => False) own
  | .lc el tg it ifs own, W => tLc (it.den v W) (tg.den v fun _ _ _ _ => False) (ifs.den v fun _ _ _ _ => False) (el.den v fun _ _ _ _ => False) own
def Xps.dens (v : Ev) : Xps → WX → List TE
  | .nil, _ => []
  | .cons e r, W => e.den v W :: r.dens v W
def Xpo.den (v : Ev) : Xpo → WX → TO
  | .no, _ => tNoPart
  | .so e, W => tPart (e.den v W)
def Xps.den (v : Ev) : Xps → WX → TA
  | .nil, _ => tNil
  | .cons e r, W => tCons (e.den v W) (r.den v W)
def Tt.den (v : Ev) : Tt → WX → TT
  | .tr e, W => fun σ H Q => e.den v W σ H fun x H1 => rTru v.K x H1 fun b => Q b H1
  | .cmp op a b, W => tCp (rCmpB v.K op) (a.den v W) (b.den v W)
  | .chn o1 o2 a b c, W => tCh (rCmpB v.K o1) (rCmpB v.K o2) (a.den v W) (b.den v W) (c.den v W)
  | .chn3 o1 o2 o3 a b c d, W => tCh3 (rCmpB v.K o1) (rCmpB v.K o2) (rCmpB v.K o3) (a.den v W) (b.den v W) (c.den v W) (d.den v W)
  | .and a b, W => tAnd (a.den v W) (b.den v W)
  | .or a b, W => tOr (a.den v W) (b.den v W)
  | .not a, W => tNot (a.den v W)
def Tto.den (v : Ev) : Tto → WX → TT
  | .no, _ => tYes
  | .so t, W => t.den v W
def Sq.den (v : Ev) : Sq → WX → TI
  | .lst e, W => iList v.K (e.den v W)
  | .tup e, W => iTup v.K (e.den v W)
  | .txt e, W => iStr (e.den v W)
  | .rng1 a, W => iRng1 (tCons (a.den v W) tNil)
  | .rng2 a b, W => iRng2 (tCons (a.den v W) (tCons (b.den v W) tNil))
  | .rng3 a b c, W => iRng3 (tCons (a.den v W) (tCons (b.den v W) (tCons (c.den v W) tNil)))
  | .enm e, W => iEnum v.K (tCons (e.den v W) tNil)
  | .zip a b, W => RZ.iZipA v.K (tCons (a.den v W) (tCons (b.den v W) tNil))
  | .zipS a b, W => iZipS (tCons (a.den v W) (tCons (b.den v W) tNil))
  | .rvs e, W => RT.iRevA v.K (e.den v W)
  | .rvT e, W => RX.iRevT (e.den v W)
  | .rvr1 a, W => iRevR (tRg1 (a.den v W))
  | .rvr2 a b, W => iRevR (tRg2 (a.den v W) (b.den v W))
  | .any a b, W => fun σ H R => a.den v W σ H R ∨ b.den v W σ H R
  | .enmT e, W => iEnumT v.K (tCons (e.den v W) tNil)
def Tg.den (v : Ev) : Tg → WX → TG
  | .nm i, _ => gName i
  | .tup gs, W => fun x σ H Q => gTup v.K gs.len (gs.den v W) x σ H Q ∨ gLst v.K gs.len (gs.den v W) x σ H Q
  | .sub o i, W => gSub (o.den v W) (i.den v W) rSetA
def Tgs.den (v : Ev) : Tgs → WX → TGs
  | .nil, _ => gNil
  | .cons g r, W => gCons (g.den v W) (r.den v W)
def Tgs.len : Tgs → Nat
  | .nil => 0
  | .cons _ r => r.len + 1
end

/-- a op= b, by values -/
def rAug (K : PySem.W.Frag) : Operator → TIp
  | .Add => fun x y H Q => match x, y with
    | .int i, .int j => Q (.int (i + j)) H
    | .str a, .str b => a.length + b.length ≤ sizeLine ∧ Q (.str (a ++ b)) H
    | _, _ => False
  | .Sub => fun x y H Q => match x, y with
    | .int i, .int j => Q (.int (i - j)) H
    | _, _ => False
  | _ => fun _ _ _ _ => False
def tAugA (i : Nat) (te : TE) (ti : TIp) : TS := fun D σ H => match σ[i]? with
  | some (some x) => te σ H fun y H1 => ti x y H1 fun z H2 => D.nx (σ.set i (some z)) H2
  | _ => False
def tFlS (C : Addr) (ta tv : TE) (f : Str) : TS := fun D σ H => tv σ H fun y H1 => ta σ H1 fun x H2 => ∃ a dx fs, x = .ref a ∧ H2 a = some (.ins C dx fs) ∧ fs.length < 1000 ∧
  D.nx σ (upd H2 a (.ins C dx (putF f y fs)))
def tFlA (C : Addr) (ta tv : TE) (rd : V → V → Hp → VK → Prop) (f : Str) : TS := fun D σ H => ta σ H fun x H1 => ∃ a dx fs v, x = .ref a ∧ H1 a = some (.ins C dx fs) ∧ fs.lookup f = some v ∧
  tv σ H1 fun y H2 => rd v y H2 fun z H3 => ∃ gs, H3 a = some (.ins C dx gs) ∧ gs.length < 1000 ∧ D.nx σ (upd H3 a (.ins C dx (putF f z gs)))
mutual
def Sm.den (v : Ev) : Sm → WX → TS
  | .asg g e, W => tAsg (e.den v W) (g.den v W)
  | .asl i el tg it ifs own, W => tAsg (tLc (it.den v W) (tg.den v fun _ _ _ _ => False) (ifs.den v fun _ _ _ _ => False) (el.den v fun _ _ _ _ => False) own) (gName i)
  | .par i j a b, W => tPar i j (tCons (a.den v W) (tCons (b.den v W) tNil))
  | .par3 i j l a b c, W => tPar3 i j l (tCons (a.den v W) (tCons (b.den v W) (tCons (c.den v W) tNil)))
  | .fld C o f e, W => tFlS (v.cls C) (o.den v W) (e.den v W) f
  | .aug i op e, W => tAugA i (e.den v W) (rAug v.K op)
  | .augf C o f op e, W => tFlA (v.cls C) (o.den v W) (e.den v W) (rAug v.K op) f
  | .exp e, W => tDrop (e.den v W)
  | .ret e, W => tRet (e.den v W)
  | .retN, _ => tRetN
  | .pass, _ => tNext
  | .brk, _ => tBreak
  | .cnt, _ => tCont
  | .ite t a b, W => tIfS (t.den v W) (a.den v W) (b.den v W)
  | .whl t b, W => tWhile (t.den v W) (b.den v W)
  | .for_ tg it b, W => tFor (it.den v W) (tg.den v W) (b.den v W)
  | .rai C f es, W => fun _ σ H => tRai (v.cls C) f (es.den v W) σ H fun c d H1 => W c d σ H1
  | .tryA b C i s, W => fun D σ H => b.den v (wAs v.K (.ref (v.cls C)) i (fun a c d => s.den { v with ex := some (a, c, d) } fun _ _ _ _ => False) W D) D σ H
  | .tryO b C s, W => fun D σ H => b.den v (wOnly v.K (.ref (v.cls C)) (fun a c d => s.den { v with ex := some (a, c, d) } fun _ _ _ _ => False) W D) D σ H
  | .tryM b hs, W => fun D σ H => b.den v (wMany v.K W D (hs.den v)) D σ H
  | .ddel d k, W => sDDel (d.den v W) (k.den v W)
  | .never, _ => tNever
def Sms.den (v : Ev) : Sms → WX → TS
  | .nil, _ => tNext
  | .cons s r, W => tSeq (s.den v W) (r.den v W)
def Hds.den (v : Ev) : Hds → List (Value × (Addr → Value → Option Addr → TS))
  | .nil => []
  | .cons C s r => (.ref (v.cls C), fun a c d => s.den { v with ex := some (a, c, d) } fun _ _ _ _ => False) :: r.den v
end
end DI

/-! DI, part 2: the operations' readings are right. -/
namespace DI
open L2
open PySem.Spec
open PySem

section
variable {X : Cx} {K : PySem.W.Frag}

theorem opAdd (hK : K = X.K) : OpR X (binaryOp .Add) (rAdd K) := by
  subst hK
  intro pins s σ H x y v u Q I rx ry h
  unfold rAdd at h
  split at h
  · exact op_add pins s σ H _ _ v u Q I rx ry ⟨_, _, rfl, rfl, h⟩
  · exact op_add_str pins s σ H _ _ v u Q I rx ry ⟨_, _, rfl, rfl, h.1, h.2⟩
  · cases h with
    | lst ha hb hz q => exact op_cat pins s σ H _ _ v u Q I rx ry ⟨_, _, _, _, rfl, rfl, ha, hb, hz, q⟩
    | tup ha hb hz q1 q2 q3 => exact op_catA pins s σ H _ _ v u Q I rx ry ⟨_, _, _, _, rfl, rfl, ha, hb, hz, q1, q2, q3⟩
  · exact h.elim
theorem opSub : OpR X (binaryOp .Sub) rSub := by
  intro pins s σ H x y v u Q I rx ry h
  unfold rSub at h
  split at h
  · exact op_sub pins s σ H _ _ v u Q I rx ry ⟨_, _, rfl, rfl, h⟩
  · exact h.elim
theorem opMul : OpR X (binaryOp .Mult) rMul := by
  intro pins s σ H x y v u Q I rx ry h
  unfold rMul at h
  split at h
  · exact op_mul pins s σ H _ _ v u Q I rx ry ⟨_, _, rfl, rfl, h.1, h.2⟩
  · obtain ⟨t, rfl⟩ := rx
    obtain ⟨t', rfl⟩ := ry
    exact SB.mul h.1 fun t2 k => ⟨.str _, H, I.tok _, ⟨_, rfl⟩, h.2⟩
  · cases h with
    | lst ha h1 h2 hz q => exact op_rep pins s σ H _ _ v u Q I rx ry ⟨_, _, _, rfl, rfl, ha, h1, h2, hz, q⟩
  · exact h.elim
theorem opFdv : OpR X (binaryOp .FloorDiv) rFdv := by
  intro pins s σ H x y v u Q I rx ry h
  unfold rFdv at h
  split at h
  · exact op_fdivW pins s σ H _ _ v u Q I rx ry ⟨_, _, rfl, rfl, h.1, h.2⟩
  · exact h.elim
theorem opMod : OpR X (binaryOp .Mod) rMod := by
  intro pins s σ H x y v u Q I rx ry h
  unfold rMod at h
  split at h
  · exact op_mod pins s σ H _ _ v u Q I rx ry ⟨_, _, rfl, rfl, h.1, h.2⟩
  · exact h.elim
theorem opPow : OpR X (binaryOp .Pow) rPow := by
  intro pins s σ H x y v u Q I rx ry h
  unfold rPow at h
  split at h
  · exact op_pow pins s σ H _ _ v u Q I rx ry ⟨_, _, rfl, rfl, h.1, h.2⟩
  · exact h.elim
theorem opShl : OpR X (binaryOp .LShift) rShl := by
  intro pins s σ H x y v u Q I rx ry h
  unfold rShl at h
  split at h
  · rcases h with ⟨h1 | h1, h2⟩
    · exact op_shl pins s σ H _ _ v u Q I rx ry ⟨_, _, rfl, rfl, h1, h2⟩
    · exact op_shlW pins s σ H _ _ v u Q I rx ry ⟨_, _, rfl, rfl, h1, h2⟩
  · exact h.elim
theorem opShr : OpR X (binaryOp .RShift) rShr := by
  intro pins s σ H x y v u Q I rx ry h
  unfold rShr at h
  split at h
  · exact op_shr pins s σ H _ _ v u Q I rx ry ⟨_, _, rfl, rfl, h.1, h.2⟩
  · exact h.elim
theorem opAnd : OpR X (binaryOp .BitAnd) rAnd := by
  intro pins s σ H x y v u Q I rx ry h
  unfold rAnd at h
  split at h
  · exact op_and pins s σ H _ _ v u Q I rx ry ⟨_, _, rfl, rfl, h⟩
  · exact h.elim
theorem opOr : OpR X (binaryOp .BitOr) rOr := by
  intro pins s σ H x y v u Q I rx ry h
  unfold rOr at h
  split at h
  · exact op_or pins s σ H _ _ v u Q I rx ry ⟨_, _, rfl, rfl, h⟩
  · exact h.elim
theorem opXor : OpR X (binaryOp .BitXor) rXor := by
  intro pins s σ H x y v u Q I rx ry h
  unfold rXor at h
  split at h
  · exact op_xor pins s σ H _ _ v u Q I rx ry ⟨_, _, rfl, rfl, h⟩
  · exact h.elim
theorem opBin (hK : K = X.K) : ∀ op : Operator, OpR X (binaryOp op) (rBin K op)
  | .Add => opAdd hK
  | .Sub => opSub
  | .Mult => opMul
  | .FloorDiv => opFdv
  | .Mod => opMod
  | .Pow => opPow
  | .LShift => opShl
  | .RShift => opShr
  | .BitAnd => opAnd
  | .BitOr => opOr
  | .BitXor => opXor
  | .MatMult => fun _ _ _ _ _ _ _ _ _ _ _ _ h => h.elim
  | .Div => fun _ _ _ _ _ _ _ _ _ _ _ _ h => h.elim

/-- a comparison by values -/
def CmR (X : Cx) (op : CmpOp) (r : V → V → Hp → (Bool → Prop) → Prop) : Prop := OpR X (compareOp op) fun x y H Q => r x y H fun b => Q (.bl b) H
theorem cmEqG {op : CmpOp} {f : Bool → Bool} (hs : OpR X (compareOp op) fun x y H Q => scal x y = true ∧ Q (.bl (f (decide (x = y)))) H)
    (hd : OpR X (compareOp op) fun x y H Q => ∃ d e, Dp X.K H x d ∧ Dp X.K H y e ∧ SeqAt.shaped d = true ∧ SeqAt.shaped e = true ∧ Q (.bl (f (PyData.eqv d e))) H) (hK : K = X.K) :
    CmR X op fun x y H Q => rEqB K x y H fun b => Q (f b) := by
  subst hK
  intro pins s σ H x y v u Q I rx ry h
  have h : rEqB X.K x y H fun b => Q (.bl (f b)) H := h
  have ei : ∀ i j : Int, decide (V.int i = V.int j) = decide (i = j) := fun i j => by
    by_cases z : i = j
    · subst z; simp
    · rw [decide_eq_false z, decide_eq_false fun w => z (V.int.inj w)]
  have es : ∀ i j : Str, decide (V.str i = V.str j) = decide (i = j) := fun i j => by
    by_cases z : i = j
    · subst z; simp
    · rw [decide_eq_false z, decide_eq_false fun w => z (V.str.inj w)]
  have eb : ∀ i j : Bool, decide (V.bl i = V.bl j) = decide (i = j) := fun i j => by
    by_cases z : i = j
    · subst z; simp
    · rw [decide_eq_false z, decide_eq_false fun w => z (V.bl.inj w)]
  unfold rEqB at h
  split at h
  · exact hs pins s σ H _ _ v u Q I rx ry ⟨rfl, by rw [ei]; exact h⟩
  · exact hs pins s σ H _ _ v u Q I rx ry ⟨rfl, by rw [es]; exact h⟩
  · exact hs pins s σ H _ _ v u Q I rx ry ⟨rfl, by rw [eb]; exact h⟩
  · cases h with
    | scal h1 q => exact hs pins s σ H _ _ v u Q I rx ry ⟨h1, q⟩
    | deep h1 he sd se q => exact hd pins s σ H _ _ v u Q I rx ry ⟨_, _, h1.dp (shaped_nd sd), he.dp (shaped_nd se), sd, se, q⟩
theorem cmEq (hK : K = X.K) (hu : X.A.units + 64 < cLine) : CmR X .Eq fun x y H Q => rEqB K x y H Q := cmEqG (f := fun b => b) op_eq (op_eqD hu) hK
theorem cmNe (hK : K = X.K) (hu : X.A.units + 64 < cLine) : CmR X .NotEq fun x y H Q => rEqB K x y H fun b => Q (!b) := cmEqG (f := fun b => !b) op_ne (op_neD hu) hK
theorem cmLt (hK : K = X.K) (hu : X.A.units < cLine) : CmR X .Lt (rLtB K) := by
  subst hK
  intro pins s σ H x y v u Q I rx ry h
  unfold rLtB at h
  split at h
  · exact op_lt pins s σ H _ _ v u Q I rx ry ⟨_, _, rfl, rfl, h⟩
  · exact op_lt_str pins s σ H _ _ v u Q I rx ry ⟨_, _, rfl, rfl, h⟩
  · cases h with
    | tup ha hb q => exact op_ltT hu pins s σ H _ _ v u Q I rx ry ⟨_, _, _, _, rfl, rfl, ha, hb, q⟩
  · exact h.elim
theorem cmLe : CmR X .LtE fun x y _ Q => rLeB x y Q := by
  intro pins s σ H x y v u Q I rx ry h
  have h : rLeB x y _ := h
  unfold rLeB at h
  split at h
  · exact op_le pins s σ H _ _ v u Q I rx ry ⟨_, _, rfl, rfl, h⟩
  · exact op_le_str pins s σ H _ _ v u Q I rx ry ⟨_, _, rfl, rfl, h⟩
  · exact h.elim
theorem cmGt : CmR X .Gt fun x y _ Q => rGtB x y Q := by
  intro pins s σ H x y v u Q I rx ry h
  have h : rGtB x y _ := h
  unfold rGtB at h
  split at h
  · exact op_gt pins s σ H _ _ v u Q I rx ry ⟨_, _, rfl, rfl, h⟩
  · exact op_gt_str pins s σ H _ _ v u Q I rx ry ⟨_, _, rfl, rfl, h⟩
  · exact h.elim
theorem cmGe : CmR X .GtE fun x y _ Q => rGeB x y Q := by
  intro pins s σ H x y v u Q I rx ry h
  have h : rGeB x y _ := h
  unfold rGeB at h
  split at h
  · exact op_ge pins s σ H _ _ v u Q I rx ry ⟨_, _, rfl, rfl, h⟩
  · exact op_ge_str pins s σ H _ _ v u Q I rx ry ⟨_, _, rfl, rfl, h⟩
  · exact h.elim
theorem cmInG {op : CmpOp} {f : Bool → Bool} (h1 : OpR X (compareOp op) fun x y H Q => ∃ (c : Nat) (z : Str), x = .str ⟨#[c]⟩ ∧ y = .str z ∧ Q (.bl (f (decide (c ∈ z.cps.toList)))) H)
    (h2 : OpR X (compareOp op) fun x y H Q => ∃ i j, x = .str i ∧ y = .str j ∧ Q (.bl (f (!(Builtin.Str.occurrences j i 0 j.length 1).isEmpty))) H)
    (h3 : OpR X (compareOp op) fun x y H Q => ∃ p xs, y = .ref p ∧ (SqL X.K H p xs ∨ SqT X.K H p xs) ∧ flatV x = true ∧ xs.all flatV = true ∧ Q (.bl (f (inV x xs))) H)
    (h4 : OpR X (compareOp op) fun x y H Q => ∃ a o, y = .ref a ∧ DGet H a x o ∧ Q (.bl (f o.isSome)) H)
    (h5 : OpR X (compareOp op) fun x y H Q => ∃ d ds, Dp X.K H x d ∧ Dp X.K H y (.list ds) ∧ SeqAt.shaped d = true ∧ SeqAt.shaped (.list ds) = true ∧ Q (.bl (f (ds.any fun z => PyData.eqv z d))) H) (hK : K = X.K) :
    CmR X op fun x y H Q => rInB K x y H fun b => Q (f b) := by
  subst hK
  intro pins s σ H x y v u Q I rx ry h
  have h : rInB X.K x y H fun b => Q (.bl (f b)) H := h
  unfold rInB at h
  split at h
  · split at h
    · cases h with
      | sign c hc q => subst hc; exact h1 pins s σ H _ _ v u Q I rx ry ⟨_, _, rfl, rfl, q⟩
      | text q => exact h2 pins s σ H _ _ v u Q I rx ry ⟨_, _, rfl, rfl, q⟩
    · exact h.elim
  · cases h with
    | flat hs fx fs q => exact h3 pins s σ H _ _ v u Q I rx ry ⟨_, _, rfl, hs, fx, fs, q⟩
    | dict g q => exact h4 pins s σ H _ _ v u Q I rx ry ⟨_, _, rfl, g, q⟩
    | deep hd he sd se q => exact h5 pins s σ H _ _ v u Q I rx ry ⟨_, _, hd.dp (shaped_nd sd), he.dp (shaped_nd se), sd, se, q⟩
  · exact h.elim
theorem opInD (hu : X.A.units + 1 < cLine) : OpR X (compareOp .In) fun x y H Q => ∃ a o, y = .ref a ∧ DGet H a x o ∧ Q (.bl o.isSome) H := by
  intro pins s σ H x y v u Q I rx ry h
  obtain ⟨a, o, e, g, q⟩ := h
  subst e
  cases ry
  exact d_in hu I g rx fun s3 I3 => ⟨.bl _, H, I3, rfl, q⟩
theorem opNotInD (hu : X.A.units + 1 < cLine) : OpR X (compareOp .NotIn) fun x y H Q => ∃ a o, y = .ref a ∧ DGet H a x o ∧ Q (.bl (!o.isSome)) H := by
  intro pins s σ H x y v u Q I rx ry h
  obtain ⟨a, o, e, g, q⟩ := h
  subst e
  cases ry
  exact d_notIn hu I g rx fun s3 I3 => ⟨.bl _, H, I3, rfl, q⟩
theorem cmIn (hK : K = X.K) (hu : X.A.units + 65 < cLine) : CmR X .In fun x y H Q => rInB K x y H Q :=
  cmInG (f := fun b => b) op_in_sign op_in_str op_in_seq (opInD (Nat.lt_of_le_of_lt (Nat.add_le_add_left (by decide : 1 ≤ 65) _) hu)) (op_inD hu) hK
theorem cmNotIn (hK : K = X.K) (hu : X.A.units + 65 < cLine) : CmR X .NotIn fun x y H Q => rInB K x y H fun b => Q (!b) :=
  cmInG (f := fun b => !b) op_notIn_sign op_notin_str op_notIn_seq (opNotInD (Nat.lt_of_le_of_lt (Nat.add_le_add_left (by decide : 1 ≤ 65) _) hu)) (op_notInD hu) hK
theorem cmIs : CmR X .Is fun x y _ Q => rIsB x y Q := by
  intro pins s σ H x y v u Q I rx ry h
  rcases h with h | h
  · exact op_isN pins s σ H _ _ v u Q I rx ry ⟨h.1, h.2⟩
  · exact op_isBl pins s σ H _ _ v u Q I rx ry h
theorem cmIsNot : CmR X .IsNot fun x y _ Q => rIsB x y fun b => Q (!b) := by
  intro pins s σ H x y v u Q I rx ry h
  rcases h with h | h
  · exact op_notN pins s σ H _ _ v u Q I rx ry ⟨h.1, h.2⟩
  · exact op_notBl pins s σ H _ _ v u Q I rx ry h
theorem cmAll (hK : K = X.K) (hu : X.A.units + 65 < cLine) : ∀ op : CmpOp, CmR X op (rCmpB K op)
  | .Eq => cmEq hK (Nat.lt_of_le_of_lt (Nat.add_le_add_left (by decide : 64 ≤ 65) _) hu)
  | .NotEq => cmNe hK (Nat.lt_of_le_of_lt (Nat.add_le_add_left (by decide : 64 ≤ 65) _) hu)
  | .Lt => cmLt hK (Nat.lt_of_le_of_lt (Nat.le_add_right _ _) hu)
  | .LtE => cmLe
  | .Gt => cmGt
  | .GtE => cmGe
  | .In => cmIn hK hu
  | .NotIn => cmNotIn hK hu
  | .Is => cmIs
  | .IsNot => cmIsNot

theorem ixAll (hK : K = X.K) (hu : X.A.units + 1 < cLine) : IxR X (rIxA K) := by
  subst hK
  intro value slice pins s σ H x y v u Q I rx ry h hs
  unfold rIxA at h
  split at h
  · obtain ⟨i, c, rfl, hz, hc, q⟩ := h
    exact ix_str value slice pins s σ H _ _ v u Q I rx ry ⟨_, _, _, rfl, rfl, hz, hc, q⟩ hs
  · cases h with
    | lst hl e hv q => subst e; exact ix_list value slice pins s σ H _ _ v u Q I rx ry ⟨_, _, _, _, rfl, rfl, hl, hv, q⟩ hs
    | tup hl e hv q => subst e; exact ix_tup value slice pins s σ H _ _ v u Q I rx ry ⟨_, _, _, _, rfl, rfl, hl, hv, q⟩ hs
    | dict g q =>
      cases rx
      exact PyProof.Rows.tail_any (dict_typeIs I g) PySem.F.slot_dict_getitem.lookup (d_getItem hu I g ry fun w' s3 I3 rw' => ⟨_, H, I3, rw', q⟩) hs
  · exact h.elim
theorem slAll (hK : K = X.K) : SlR X (rSlAny K) := by
  subst hK
  intro pins s σ H x v vl vu lo hi sl Q I rx hsl pl pu h
  unfold rSlAny at h
  split at h
  · exact sl_str pins s σ H _ v vl vu lo hi sl Q I rx hsl pl pu ⟨_, rfl, h.1, h.2⟩
  · cases h with
    | lst hl q => exact sl_list pins s σ H _ v vl vu lo hi sl Q I rx hsl pl pu ⟨_, _, rfl, hl, q⟩
    | tup hl q1 q2 => exact sl_tupA pins s σ H _ v vl vu lo hi sl Q I rx hsl pl pu ⟨_, _, rfl, hl, q1, q2⟩
  · exact h.elim
theorem setAll (hu : X.A.units + 1 < cLine) : PSet X rSetA := by
  intro pins s σ H o i v ov iv u Q I ro ri rv h
  unfold rSetA at h
  split at h
  · cases h with
    | lst ha e hj q => subst e; exact set_list pins s σ H _ _ v ov iv u Q I ro ri rv ⟨_, _, _, _, rfl, rfl, ha, hj, q⟩
    | dict g q => exact set_dict hu pins s σ H _ _ v ov iv u Q I ro ri rv ⟨_, _, rfl, g, q⟩
  · exact h.elim
theorem truAll (hK : K = X.K) : TruR X fun x H Q => rTru K x H fun b => Q b H := by
  subst hK
  intro pins s σ H x v Q I rx h
  refine tru_ok pins s σ H x v Q I rx ?_
  unfold rTru at h
  split at h
  · exact ⟨false, rfl, h⟩
  · exact ⟨_, rfl, h⟩
  · rename_i i
    refine ⟨_, rfl, ?_⟩
    have e : (i != 0) = decide (i ≠ 0) := by
      by_cases z : i = 0
      · subst z; rfl
      · rw [decide_eq_true z]; exact bne_iff_ne.mpr z
    rw [e]; exact h
  · rename_i y
    refine ⟨_, ⟨h.1, rfl⟩, ?_⟩
    have e : ((y.length : Int) != 0) = decide (y.length ≠ 0) := by
      by_cases z : y.length = 0
      · rw [z]; rfl
      · rw [decide_eq_true z]; exact bne_iff_ne.mpr (by omega)
    rw [e]; exact h.2
  · cases h with
    | lst hl q => exact ⟨_, .inl ⟨_, hl, rfl⟩, q⟩
    | tup hl q => exact ⟨_, .inr (.inl ⟨_, hl, rfl⟩), q⟩
    | dict hl q => exact ⟨_, .inr (.inr ⟨_, hl, rfl⟩), q⟩
  · exact h.elim
theorem augAll (hK : K = X.K) : ∀ op : Operator, PIp X op (rAug K op) := by
  subst hK
  intro op pins s σ H x y v u Q I rx ry h
  unfold rAug at h
  split at h
  · split at h
    · exact iop_add pins s σ H _ _ v u Q I rx ry ⟨_, _, rfl, rfl, h⟩
    · exact iop_add_str pins s σ H _ _ v u Q I rx ry ⟨_, _, rfl, rfl, h.1, h.2⟩
    · exact h.elim
  · split at h
    · exact iop_sub pins s σ H _ _ v u Q I rx ry ⟨_, _, rfl, rfl, h⟩
    · exact h.elim
  · exact h.elim
end
end DI

/-! DI, part 3: built-in functions and methods. -/
namespace DI
open L2
open PySem.Spec
open PySem

section
variable {X : Cx} {K : PySem.W.Frag}
def Bf.name : Bf → Str
  | .len => "len"
  | .int => "int"
  | .str => "str"
  | .abs => "abs"
  | .max => "max"
  | .min => "min"
  | .sum => "sum"
  | .list => "list"
  | .tuple => "tuple"
  | .sorted => "sorted"
  | .all => "all"
  | .any => "any"
  | .isi => "isinstance"
  | .repr => "repr"
def Bf.val : Bf → Value
  | .len => .builtin "len"
  | .int => .type "int"
  | .str => .type "str"
  | .abs => .builtin "abs"
  | .max => .builtin "max"
  | .min => .builtin "min"
  | .sum => .builtin "sum"
  | .list => .type "list"
  | .tuple => .type "tuple"
  | .sorted => .builtin "sorted"
  | .all => .builtin "all"
  | .any => .builtin "any"
  | .isi => .builtin "isinstance"
  | .repr => .builtin "repr"
theorem Bf.boot : ∀ b : Bf, bootBuiltins b.name = some b.val
  | .len => by decide +kernel
  | .int => by decide +kernel
  | .str => by decide +kernel
  | .abs => by decide +kernel
  | .max => by decide +kernel
  | .min => by decide +kernel
  | .sum => by decide +kernel
  | .list => by decide +kernel
  | .tuple => by decide +kernel
  | .sorted => by decide +kernel
  | .all => by decide +kernel
  | .any => by decide +kernel
  | .isi => by decide +kernel
  | .repr => by decide +kernel
theorem Bf.notName (b : Bf) : b.name ≠ "__name__" := by cases b <;> decide +kernel
theorem Bf.notDbg (b : Bf) : (b.name == ("__debug__" : Str)) = false := by cases b <;> decide +kernel
/-- the modules' dict stands in the heap -/
def SysM (h : Heap) : Prop := ∃ o es ep, h.get? sysModules = some o ∧ o.data = .dict es ep
section
variable {pins : List (Addr × Obj)} {σ : L2.St} {H : Hp} {s : Shared}
theorem sys_at (I : L2.Inv X pins σ H s) (sm : SysM X.base) : ∃ o es ep, s.heap.get? sysModules = some o ∧ o.data = .dict es ep := by
  obtain ⟨o, es, ep, h, d⟩ := sm
  obtain ⟨h0, h1⟩ := I.ok.bs _ _ h
  have hn := I.ok.noex _ _ h
  by_cases hf : sysModules ∈ X.fs
  · obtain ⟨sl, e⟩ := I.base.slot _ _ h0 h1 hf hn
    exact ⟨_, es, ep, e, d⟩
  · exact ⟨o, es, ep, I.base.keep _ _ h0 h1 hf hn, d⟩
theorem keyIs_reads {h : Heap} {k : Key} {u : Value} (e : keyIs k u = true) : Reads h u (kD k) [] := by
  cases k with
  | inl i => cases u with
    | int j t =>
      have : (j == i) = true := e
      have : j = i := by simpa using this
      subst this
      exact .int _ _
    | _ => cases e
  | inr x => cases u with
    | str y t =>
      have : (y == x) = true := e
      have : y = x := by simpa using this
      subst this
      exact .str _ _
    | _ => cases e
theorem pairs_reads {prog : Program} {w : World} {h : Heap} : ∀ {es : List DictEntry} {vs : List (Key × Value)} {kvs : List (Key × V)}, Pairs (mixKind prog w) es vs → KV kvs vs → ReadsAll h (es.map (·.key)) (kvs.map fun kv => kD kv.1) [] ∧ Vals (kvs.map (·.2)) (es.map (·.val))
  | _, _, _, .nil, .nil => ⟨.nil, .nil⟩
  | _, _, _, .cons (e := e) (kv := q) hk hv r, .cons hp rp => by
    obtain ⟨i1, i2⟩ := pairs_reads (h := h) r rp
    obtain ⟨e1, e2⟩ := hp
    refine ⟨?_, ?_⟩
    · have := keyIs_reads (h := h) (k := q.1) hk
      rw [← e1] at this
      exact .cons this i1
    · rw [← hv] at e2
      exact .cons e2 i2
theorem zip_fst : ∀ {a b : List PyData}, a.length = b.length → (a.zip b).map (·.1) = a
  | [], [], _ => rfl
  | x :: xs, y :: ys, h => by
    rw [List.zip_cons_cons, List.map_cons, zip_fst (by simpa using h)]
  | [], _ :: _, h => by cases h
  | _ :: _, [], h => by cases h
theorem zip_snd : ∀ {a b : List PyData}, a.length = b.length → (a.zip b).map (·.2) = b
  | [], [], _ => rfl
  | x :: xs, y :: ys, h => by
    rw [List.zip_cons_cons, List.map_cons, zip_snd (by simpa using h)]
  | [], _ :: _, h => by cases h
  | _ :: _, [], h => by cases h
theorem DqAll.len {H : Hp} : ∀ {xs : List V} {ds : List PyData}, DqAll K H xs ds → xs.length = ds.length
  | _, _, .nil => rfl
  | _, _, .cons _ r => by rw [List.length_cons, List.length_cons, r.len]
mutual
theorem Dq.reads (I : L2.Inv X pins σ H s) (sm : SysM X.base) : ∀ {v : V} {d : PyData} (u : Value), Dq X.K H v d → RelV v u → ∃ as, Reads s.heap u d as ∧ sysModules ∉ as
  | _, _, _, .non, r => by cases r; exact ⟨[], .none, by simp⟩
  | _, _, _, .bl b, r => by cases r; exact ⟨[], .bool b, by simp⟩
  | _, _, _, .int i, r => by obtain ⟨t, rfl⟩ := r; exact ⟨[], .int i t, by simp⟩
  | _, _, _, .str x, r => by obtain ⟨t, rfl⟩ := r; exact ⟨[], .str x t, by simp⟩
  | _, _, _, .lst (a := a) h ra, r => by
    cases r
    obtain ⟨its, rv, ⟨o, n, ho, hc, _, hd⟩, _⟩ := I.list h
    obtain ⟨as, rd, na⟩ := DqAll.reads I sm _ ra rv
    obtain ⟨o1, es, ep, h1, d1⟩ := sys_at I sm
    refine ⟨a :: as, .list ho hc hd (by simpa using rd), ?_⟩
    rw [List.mem_cons]
    rintro (e | e)
    · rw [e, ho] at h1
      cases h1
      rw [hd] at d1
      cases d1
    · exact na e
  | _, _, _, .tup (a := a) h ra, r => by
    cases r
    obtain ⟨its, rv, ⟨o, ho, hc, n, hd⟩, _⟩ := I.tuple h
    obtain ⟨as, rd, na⟩ := DqAll.reads I sm _ ra rv
    exact ⟨as, .tuple ho hc hd (by simpa using rd), na⟩
  | _, _, _, .dic (a := a) (kvs := kvs) (ds := ds) h ra, r => by
    cases r
    have ok : ObjOk X.prog X.w H s.heap a (.dK kvs) := I.hok a _ h
    unfold ObjOk at ok
    obtain ⟨_, hs, vs, kv, o, es, ep, ho, hex, hd, _, hp, _⟩ := ok
    obtain ⟨rk, rv⟩ := pairs_reads (h := s.heap) hp kv
    obtain ⟨as, rd, na⟩ := DqAll.reads I sm _ ra rv
    have hl : (kvs.map fun kv => kD kv.1).length = ds.length := by rw [List.length_map, ← ra.len, List.length_map]
    refine ⟨a :: [] ++ as, .dict ho hex.1 hd (by rw [zip_fst hl]; exact rk) (by rw [zip_snd hl]; exact rd), ?_⟩
    intro e
    rcases List.mem_append.mp e with e | e
    · simp only [List.mem_singleton] at e
      rw [← e] at hs
      cases hs
    · exact na e
theorem DqAll.reads (I : L2.Inv X pins σ H s) (sm : SysM X.base) : ∀ {vs : List V} {ds : List PyData} (us : List Value), DqAll X.K H vs ds → Vals vs us → ∃ as, ReadsAll s.heap us ds as ∧ sysModules ∉ as
  | _, _, _, .nil, r => by cases r; exact ⟨[], .nil, by simp⟩
  | _, _, _, .cons h ra, r => by
    cases r with
    | cons r1 r2 =>
    obtain ⟨as, rd, na⟩ := Dq.reads I sm _ h r1
    obtain ⟨bs, rds, nb⟩ := DqAll.reads I sm _ ra r2
    exact ⟨as ++ bs, .cons rd rds, fun e => (List.mem_append.mp e).elim na nb⟩
end
end
theorem crRepr (sm : SysM X.base) (hg : X.A.guards = some []) (hu : X.A.units + 64 < cLine) : CallR X (.builtin "repr") fun vs H Q => ∃ x d, vs = [x] ∧ Dq X.K H x d ∧ d.showable = true ∧ d.depth < 63 ∧ d.shown.length ≤ sizeLine ∧ Q (.str d.shown) H := by
  intro pins s σ H xs us Q I r h
  obtain ⟨x, d, rfl, hd, hs, hdp, hz, q⟩ := h
  obtain ⟨u, rfl, ru⟩ := vals1 r
  obtain ⟨as, rd, na⟩ := Dq.reads I sm u hd ru
  cases hd with
  | non => cases ru; exact PySem.P.repr_of_none ⟨.str _, H, I.tok _, ⟨_, rfl⟩, q⟩
  | bl b => cases ru; exact PySem.P.repr_of_bool ⟨.str _, H, I.tok _, ⟨_, rfl⟩, q⟩
  | int i =>
    obtain ⟨t, rfl⟩ := ru
    exact PySem.P.repr_of_int (of_decide_eq_true hs) ⟨.str _, H, I.tok _, ⟨_, rfl⟩, q⟩
  | str z =>
    obtain ⟨t, rfl⟩ := ru
    exact PySem.P.repr_of_str ⟨.str _, H, I.tok _, ⟨_, rfl⟩, q⟩ hz
  | @lst a xs ds h1 h2 =>
    cases ru
    exact repr_of_reads' rd hs (fun _ => na) hg (by omega) (fun _ _ e => e) (fun h' u tk hk => ⟨.str _, H, I.kept hk, ⟨_, rfl⟩, q⟩) hz
  | @tup a xs ds h1 h2 =>
    cases ru
    exact repr_of_reads' rd hs (fun _ => na) hg (by omega) (fun _ _ e => e) (fun h' u tk hk => ⟨.str _, H, I.kept hk, ⟨_, rfl⟩, q⟩) hz
  | @dic a kvs ds h1 h2 =>
    cases ru
    exact repr_of_reads' rd hs (fun _ => na) hg (by omega) (fun _ _ e => e) (fun h' u tk hk => ⟨.str _, H, I.kept hk, ⟨_, rfl⟩, q⟩) hz
/-- isinstance asks nothing of the place where it is called -/
theorem isiOk (hK : K = X.K) : CallR X Bf.isi.val (rBf K .isi) := by
  subst hK
  intro pins s σ H vs us Q I r h
  dsimp only [rBf] at h
  split at h
  · obtain ⟨t, u, b, h1, h2, h3, q⟩ := h
    exact call_isi pins s σ H _ us Q I r ⟨_, _, t, u, b, rfl, h1, h2, h3, q⟩
  · exact h.elim
theorem bfOk (sm : SysM X.base) (hK : K = X.K) (hc : X.calm = true) (hg : X.A.guards = some []) (hu : X.A.units + 65 < cLine) : ∀ b : Bf, CallR X b.val (rBf K b)
  | .len => by
    subst hK
    intro pins s σ H vs us Q I r h
    dsimp only [rBf] at h
    split at h
    · exact call_len_str pins s σ H _ us Q I r ⟨_, rfl, h.1, h.2⟩
    · cases h with
      | lst hl q => exact call_len_seq pins s σ H _ us Q I r ⟨_, _, rfl, .inl hl, q⟩
      | tup hl q => exact call_len_seq pins s σ H _ us Q I r ⟨_, _, rfl, .inr hl, q⟩
      | dict hl q => exact call_lenD pins s σ H _ us Q I r ⟨_, _, rfl, hl, q⟩
      | dicT hl q => exact call_len_dT pins s σ H _ us Q I r ⟨_, _, rfl, hl, q⟩
    · exact h.elim
  | .int => by
    intro pins s σ H vs us Q I r h
    dsimp only [rBf] at h
    split at h
    · exact call_int1 pins s σ H _ us Q I r (.inl ⟨_, rfl, h⟩)
    · exact call_int1 pins s σ H _ us Q I r (.inr ⟨_, rfl, h⟩)
    · obtain ⟨n, e, hz, q⟩ := h
      exact call_int_str pins s σ H _ us Q I r ⟨_, _, rfl, e, hz, q⟩
    · exact h.elim
  | .str => by
    intro pins s σ H vs us Q I r h
    dsimp only [rBf] at h
    split at h
    · exact call_str_int pins s σ H _ us Q I r ⟨_, rfl, h.1, h.2⟩
    · exact SkE.call_str_str pins s σ H _ us Q I r ⟨_, rfl, h⟩
    · exact h.elim
  | .abs => by
    intro pins s σ H vs us Q I r h
    dsimp only [rBf] at h
    split at h
    · exact call_abs pins s σ H _ us Q I r ⟨_, rfl, h⟩
    · exact h.elim
  | .max => by
    subst hK
    intro pins s σ H vs us Q I r h
    dsimp only [rBf] at h
    split at h
    · exact call_max2 hc pins s σ H _ us Q I r ⟨_, _, rfl, h⟩
    · obtain ⟨ns, hl, hz, q⟩ := h
      exact cr_max hc pins s σ H _ us Q I r ⟨_, _, rfl, hl, hz, q⟩
    · exact h.elim
  | .min => by
    subst hK
    intro pins s σ H vs us Q I r h
    dsimp only [rBf] at h
    split at h
    · exact call_min2 hc pins s σ H _ us Q I r ⟨_, _, rfl, h⟩
    · rcases h with ⟨ns, hl, hz, q⟩ | h
      · exact cr_min hc pins s σ H _ us Q I r ⟨_, _, rfl, hl, hz, q⟩
      · exact MX.cr_minD hc hu pins s σ H _ us Q I r h
    · exact h.elim
  | .sum => by
    subst hK
    intro pins s σ H vs us Q I r h
    dsimp only [rBf] at h
    split at h
    · obtain ⟨ns, hl, q⟩ := h
      exact cr_sum hc pins s σ H _ us Q I r ⟨_, _, rfl, hl, q⟩
    · exact h.elim
  | .list => by
    subst hK
    intro pins s σ H vs us Q I r h
    dsimp only [rBf] at h
    split at h
    · cases h with
      | lst hl q => exact call_list_of pins s σ H _ us Q I r ⟨_, _, rfl, .inl hl, q⟩
      | tup hl q => exact call_list_of pins s σ H _ us Q I r ⟨_, _, rfl, .inr hl, q⟩
      | dict hl q => exact call_listD hc pins s σ H _ us Q I r ⟨_, _, rfl, hl, q⟩
    · exact h.elim
  | .tuple => by
    subst hK
    intro pins s σ H vs us Q I r h
    dsimp only [rBf] at h
    split at h
    · cases h with
      | lst hl q => exact call_tuple_of pins s σ H _ us Q I r ⟨_, _, rfl, .inl ⟨hl, q⟩⟩
      | tup hl q => exact call_tuple_of pins s σ H _ us Q I r ⟨_, _, rfl, .inr ⟨hl, q⟩⟩
    · exact h.elim
  | .sorted => by
    subst hK
    intro pins s σ H vs us Q I r h
    dsimp only [rBf] at h
    split at h
    · cases h with
      | dct hl e hz q => exact call_sortedDI hc pins s σ H _ us Q I r ⟨_, _, _, rfl, hl, e, hz, q⟩
      | srt hl q => exact cr_sortedI pins s σ H _ us Q I r ⟨_, _, rfl, hl, q⟩
    · exact h.elim
  | .all => by
    subst hK
    intro pins s σ H vs us Q I r h
    dsimp only [rBf] at h
    split at h
    · obtain ⟨bs, hl, q⟩ := h
      exact cr_all hc pins s σ H _ us Q I r ⟨_, _, rfl, hl, q⟩
    · exact h.elim
  | .any => by
    subst hK
    intro pins s σ H vs us Q I r h
    dsimp only [rBf] at h
    split at h
    · obtain ⟨bs, hl, q⟩ := h
      exact cr_any hc pins s σ H _ us Q I r ⟨_, _, rfl, hl, q⟩
    · exact h.elim
  | .isi => by
    subst hK
    intro pins s σ H vs us Q I r h
    dsimp only [rBf] at h
    split at h
    · obtain ⟨t, u, b, h1, h2, h3, q⟩ := h
      exact call_isi pins s σ H _ us Q I r ⟨_, _, t, u, b, rfl, h1, h2, h3, q⟩
    · exact h.elim
  | .repr => by
    subst hK
    intro pins s σ H vs us Q I r h
    dsimp only [rBf] at h
    split at h
    · obtain ⟨d, h1, h2, h4, h5, q⟩ := h
      exact crRepr sm hg (Nat.lt_of_le_of_lt (Nat.add_le_add_left (by decide : 64 ≤ 65) _) hu) pins s σ H _ us Q I r ⟨_, d, rfl, h1, h2, h4, h5, q⟩
    · exact h.elim

def Bm.name : Bm → Str
  | .append => "append"
  | .pop => "pop"
  | .extend => "extend"
  | .insert => "insert"
  | .join => "join"
  | .find => "find"
  | .split => "split"
  | .lstrip => "lstrip"
  | .indexS => "index"
  | .indexL => "index"
def Bm.id : Bm → String
  | .append => "list.append"
  | .pop => "list.pop"
  | .extend => "list.extend"
  | .insert => "list.insert"
  | .join => "str.join"
  | .find => "str.find"
  | .split => "str.split"
  | .lstrip => "str.lstrip"
  | .indexS => "str.index"
  | .indexL => "list.index"
theorem Bm.plain : ∀ m : Bm, PlainAttrs m.ty
  | .append => F.plainAttrs_list
  | .pop => F.plainAttrs_list
  | .extend => F.plainAttrs_list
  | .insert => F.plainAttrs_list
  | .join => F.plainAttrs_str
  | .find => F.plainAttrs_str
  | .split => F.plainAttrs_str
  | .lstrip => F.plainAttrs_str
  | .indexS => F.plainAttrs_str
  | .indexL => F.plainAttrs_list
theorem Bm.slot : ∀ m : Bm, Slot m.ty m.name m.id
  | .append => F.slot_list_append
  | .pop => F.slot_list_pop
  | .extend => F.slot_list_extend
  | .insert => F.slot_list_insert
  | .join => F.slot_str_join
  | .find => F.slot_str_find
  | .split => F.slot_str_split
  | .lstrip => F.slot_str_lstrip
  | .indexS => F.slot_str_index
  | .indexL => F.slot_list_index
theorem Bm.desc : ∀ m : Bm, typeOf (.builtin m.id) = pure (.type "method_descriptor")
  | .append => F.type_list_append
  | .pop => F.type_list_pop
  | .extend => F.type_list_extend
  | .insert => F.type_list_insert
  | .join => F.type_str_join
  | .find => F.type_str_find
  | .split => F.type_str_split
  | .lstrip => F.type_str_lstrip
  | .indexS => F.type_str_index
  | .indexL => F.type_list_index
theorem ty_lst {H : Hp} {a : Addr} {xs : List V} (h : H a = some (.lst xs)) : tyV K "list" (.ref a) H := .inl ⟨rfl, xs, .inl (.inl h)⟩
theorem bmOk (hK : K = X.K) (hc : X.calm = true) : ∀ m : Bm, MtR X m.id (rBm K m)
  | .split => by
    intro pins s σ H x xs v us Q I rx r h
    dsimp only [rBm] at h
    split at h
    · obtain ⟨h1, h2, q⟩ := h
      exact mt_split pins s σ H _ _ v us Q I rx r ⟨_, _, rfl, rfl, h1, h2, q⟩
    · exact h.elim
  | .lstrip => by
    intro pins s σ H x xs v us Q I rx r h
    dsimp only [rBm] at h
    split at h
    · exact mt_lstripChars pins s σ H _ _ v us Q I rx r ⟨_, _, rfl, rfl, h.1, h.2⟩
    · exact h.elim
  | .indexS => by
    intro pins s σ H x xs v us Q I rx r h
    dsimp only [rBm] at h
    split at h
    · obtain ⟨k, e, q⟩ := h
      exact mt_indexX hc (takes0 (X := X)) pins s σ H _ _ v us Q I rx r ⟨_, _, rfl, rfl, fun j ej => (by rw [e] at ej; cases ej; exact q), fun z => by rw [e] at z; cases z⟩
    · exact h.elim
  | .indexL => by
    subst hK
    intro pins s σ H x xs v us Q I rx r h
    dsimp only [rBm] at h
    split at h
    · obtain ⟨ys, j, z, h1, h2, h3, h4, h5, h6, q⟩ := h
      exact mt_index pins s σ H _ _ v us Q I rx r ⟨_, ys, _, j, z, rfl, rfl, h1, h2, h3, h4, h5, h6, q⟩
    · exact h.elim
  | .append => by
    intro pins s σ H x xs v us Q I rx r h
    dsimp only [rBm] at h
    split at h
    · obtain ⟨ys, h1, h2, q⟩ := h
      exact mt_append pins s σ H _ _ v us Q I rx r ⟨_, _, _, rfl, rfl, h1, h2, q⟩
    · exact h.elim
  | .pop => by
    intro pins s σ H x xs v us Q I rx r h
    dsimp only [rBm] at h
    split at h
    · obtain ⟨ys, y, h1, h2, q⟩ := h
      exact mt_pop pins s σ H _ _ v us Q I rx r ⟨_, _, _, rfl, rfl, h1, h2, q⟩
    · obtain ⟨ys, k, y, h1, h2, h3, h4, h5, q⟩ := h
      exact mt_popAt pins s σ H _ _ v us Q I rx r ⟨_, _, _, _, _, rfl, rfl, h1, h2, h3, h4, h5, q⟩
    · exact h.elim
  | .extend => by
    intro pins s σ H x xs v us Q I rx r h
    dsimp only [rBm] at h
    split at h
    · obtain ⟨ys, zs, h1, h2, h3, q⟩ := h
      exact mt_extend pins s σ H _ _ v us Q I rx r ⟨_, _, _, _, rfl, rfl, h1, h2, h3, q⟩
    · exact h.elim
  | .insert => by
    intro pins s σ H x xs v us Q I rx r h
    dsimp only [rBm] at h
    split at h
    · obtain ⟨ys, h1, h2, h3, h4, q⟩ := h
      exact mt_insert pins s σ H _ _ v us Q I rx r ⟨_, _, _, _, rfl, rfl, h1, h2, h3, h4, q⟩
    · exact h.elim
  | .find => by
    intro pins s σ H x xs v us Q I rx r h
    dsimp only [rBm] at h
    split at h
    · exact mt_find pins s σ H _ _ v us Q I rx r ⟨_, _, rfl, rfl, h⟩
    · exact h.elim
  | .join => by
    subst hK
    intro pins s σ H x xs v us Q I rx r h
    dsimp only [rBm] at h
    split at h
    · obtain ⟨ys, h1, h2, q⟩ := h
      exact mt_join pins s σ H _ _ v us Q I rx r ⟨_, _, ys, rfl, rfl, h1, h2, q⟩
    · exact h.elim
end
end DI

/-! DI, part 4: the promise of a def with the room for repr too; its call. -/
namespace DI
open L2
open PySem.Spec
open PyProof.Rows hiding St
open PySem

structure RoomG (k : Nat) (A : Around) : Prop where
  r : Room k A
  g : A.guards = some []
theorem RoomG.mono {j k : Nat} {A : Around} (r : RoomG k A) (h : j ≤ k) : RoomG j A := ⟨r.r.mono h, r.g⟩
theorem RoomG.deeper {k : Nat} {A : Around} (r : RoomG (k + 1) A) (env : Env) : RoomG k (A.deeper env) := ⟨r.r.deeper env, r.g⟩
theorem RoomG.in1 {k : Nat} {A : Around} (r : RoomG (k + 1) A) : RoomG k A.in1 := ⟨r.r.in1, r.g⟩
theorem RoomG.make {k : Nat} {A : Around} (r : RoomG (k + 1) A) (C : Addr) (us : List Value) (kw : List (Str × Value)) : RoomG k (A.under (.builtin "type.__call__" ⟨.ref C :: us, kw⟩)) := by
  refine ⟨r.r.make C us kw, ?_⟩
  have h := r.g
  simpa [Around.under, Code.guards, Code.isGuard, guardIds, pushGuards] using h

/-- a def's promise: FnOk of the hand layer, with the guards told -/
structure FnG (P : Program) (w : World) (K : PySem.W.Frag) (mg : Str → Option Value) (base : Heap) (k : Nat) (f : Addr) (fd : FuncData) (ps : List Str) (sp : Sp) : Prop where
  len : ∀ vs H Q E, sp vs H Q E → vs.length = ps.length
  run : ∀ (A : Around) (outer : List Env) (s : Shared) (H : Hp) (args : Args) (us : List Value) (vs : List V) (Q : VK) (E : XK),
    RoomG k A → Env0 P w K mg base A outer s H → BindsTo s fd args (ps.zip us) → Vals vs us → sp vs H Q E →
      codeAny (model P w) A (.call (.ref f) args) (CR (CX P w) outer P w H s Q E) s

/-- how a def binds: the last parameters, ks, by name -/
def Bnd (K : PySem.W.Frag) (fd : FuncData) (ps ks : List Str) : Prop :=
  ∀ (s : Shared) (us ws : List Value), K.In s.heap → ws.length = ks.length → (us ++ ws).length = ps.length → BindsTo s fd ⟨us, ks.zip ws⟩ (ps.zip (us ++ ws))
theorem Bnd.plain {K : PySem.W.Frag} {fd : FuncData} {ps : List Str} (h : Bnd K fd ps []) : Binds K fd ps [] := fun s us hk hl => h s us [] hk rfl hl
section
variable {X : Cx} {k : Nat} {f C : Addr} {fd : FuncData} {ps : List Str} {sp : Sp} {W : WX} {x m : Str} {p pos apos : Pos} {e o : Expr} {es : List Expr} {ta : TE} {t : TA}

theorem runG {pins : List (Addr × Obj)} {σ : L2.St} {H : Hp} {s : Shared} {Q : VK} {us : List Value} {vs : List V} (F : FnG X.prog X.w X.K X.mg X.base k f fd ps sp) (hr : RoomG k X.A) (hb : Binds X.K fd ps [])
    (tk : Takes X W) (I : Inv X pins σ H s) (r : Vals vs us) (h : sp vs H Q fun c d H' => W c d σ H') : wpAny (model X.prog X.w) X.A (call (.ref f) us) (EP X pins σ Q) X.xe s := by
  have hl : us.length = ps.length := by rw [← r.length]; exact F.len _ _ _ _ h
  have hb' := hb s us I.kIn (by rw [List.append_nil]; exact hl)
  rw [List.append_nil] at hb'
  refine wpAny_call (codeAny_mono (F.run X.A X.stack s H ⟨us, []⟩ us vs Q _ hr I.env0 hb' r h) fun r s' hq => ?_)
  rcases r with e | fl
  · exact tk _ _ (XE.of_call I (fun _ _ _ z => z) hq)
  · rcases fl with _ | _ | _ | u
    all_goals first
      | exact I.after hq
      | exact False.elim hq
theorem peCallG (F : FnG X.prog X.w X.K X.mg X.base k f fd ps sp) (hr : RoomG k X.A) (hb : Binds X.K fd ps []) (tk : Takes X W) (hg : Gl X x) (hm : X.mg x = some (.ref f)) (hk : PySem.W.keepIn X.K (.ref f) = true)
    (ha : PA X (e :: es) t) (hdb : (x == ("__debug__" : Str)) = false) (he : starEach (e :: es) X.env = (false, eval e X.env) :: starEach es X.env) (hpl : (backTo pos (starEach es X.env)).any (·.1) = false) :
    PE X (.Call (.Name x p) (e :: es) [] pos) fun σ H Q => t σ H fun vs H1 => sp vs H1 Q fun c d H2 => W c d σ H2 := by
  refine ⟨fun pins s σ H Q I h => wpAny_Call_Name_kw (ld_glob I hg hm ?_ hdb)⟩
  refine PySem.W.callWith_K (h₀ := X.base) I.ok.mod.kin hk (thn (ha.run pos pins s σ H _ I h) fun us s1 ⟨vs, H1, I1, r, q⟩ => ⟨I1.kIn, ?_⟩) he hpl
  exact runG F hr hb tk I1 r q
theorem peCallG0 (F : FnG X.prog X.w X.K X.mg X.base k f fd ps sp) (hr : RoomG k X.A) (hb : Binds X.K fd ps []) (tk : Takes X W) (hg : Gl X x) (hm : X.mg x = some (.ref f)) (hk : PySem.W.keepIn X.K (.ref f) = true)
    (hdb : (x == ("__debug__" : Str)) = false) : PE X (.Call (.Name x p) [] [] pos) fun σ H Q => tNil σ H fun vs H1 => sp vs H1 Q fun c d H2 => W c d σ H2 := by
  refine ⟨fun pins s σ H Q I h => wpAny_Call_Name_kw (ld_glob I hg hm ?_ hdb)⟩
  exact PySem.W.callWith_K0 I.kIn hk (runG (us := []) F hr hb tk I .nil h)
theorem runKG {pins : List (Addr × Obj)} {σ : L2.St} {H : Hp} {s : Shared} {Q : VK} {us ws : List Value} {vs zs : List V} {ks : List Str} (F : FnG X.prog X.w X.K X.mg X.base k f fd ps sp) (hr : RoomG k X.A) (hb : Bnd X.K fd ps ks)
    (tk : Takes X W) (I : Inv X pins σ H s) (r : Vals vs us) (rz : Vals zs ws) (hz : zs.length = ks.length) (h : sp (vs ++ zs) H Q fun c d H' => W c d σ H') : wpAny (model X.prog X.w) X.A (call (.ref f) us (ks.zip ws)) (EP X pins σ Q) X.xe s := by
  have r2 := r.append rz
  have hl : (us ++ ws).length = ps.length := by rw [← r2.length]; exact F.len _ _ _ _ h
  refine wpAny_call (codeAny_mono (F.run X.A X.stack s H ⟨us, ks.zip ws⟩ (us ++ ws) (vs ++ zs) Q _ hr I.env0 (hb s us ws I.kIn (rz.length.symm.trans hz) hl) r2 h) fun r s' hq => ?_)
  rcases r with e | fl
  · exact tk _ _ (XE.of_call I (fun _ _ _ z => z) hq)
  · rcases fl with _ | _ | _ | u
    all_goals first
      | exact I.after hq
      | exact False.elim hq
theorem peCallKG {tk2 : TA} {kws : List Keyword} {ks : List Str} (F : FnG X.prog X.w X.K X.mg X.base k f fd ps sp) (hr : RoomG k X.A) (hb : Bnd X.K fd ps ks) (tk : Takes X W) (hg : Gl X x) (hm : X.mg x = some (.ref f)) (hk : PySem.W.keepIn X.K (.ref f) = true)
    (ha : PA X (e :: es) t) (hkw : PK X kws tk2) (hall : (backToKw pos (keywordEach kws X.env)).all (·.1.isSome) = true) (hks : (backToKw pos (keywordEach kws X.env)).filterMap (·.1) = ks)
    (hdb : (x == ("__debug__" : Str)) = false) (he : starEach (e :: es) X.env = (false, eval e X.env) :: starEach es X.env)
    (hpl : ((backTo pos (starEach (e :: es) X.env)).any (·.1) || (backToKw pos (keywordEach kws X.env)).any (·.1.isNone)) = false) :
    PE X (.Call (.Name x p) (e :: es) kws pos) fun σ H Q => t σ H fun vs H1 => tk2 σ H1 fun zs H2 => zs.length = ks.length ∧ sp (vs ++ zs) H2 Q fun c d H3 => W c d σ H3 := by
  refine ⟨fun pins s σ H Q I h => wpAny_Call_Name_kw (ld_glob I hg hm ?_ hdb)⟩
  refine PySem.W.callWith_KW (h₀ := X.base) I.ok.mod.kin hk hall (thn (ha.run pos pins s σ H _ I h) fun us s1 ⟨vs, H1, I1, r, q⟩ => ?_) hpl he
  refine thn (hkw.run pos pins s1 σ H1 _ I1 q) fun ws s2 ⟨zs, H2, I2, rz, l2, q2⟩ => ⟨I2.kIn, ?_⟩
  rw [hks]
  exact runKG F hr hb tk I2 r rz l2 q2
/-- the tree of o.m(..) -/
def MethTree (X : Cx) (o : Expr) (m : Str) (apos : Pos) (args : List Expr) (pos : Pos) : Prop := ∃ pl : Sem Bool, eval (.Call (.Attribute o m apos) args [] pos) X.env = (do
  let ov ← eval o X.env
  standAt apos.atName
  let (f, first) ← holding [ov] (getMethod ov m pl)
  callWith pos f first (backTo pos (starEach args X.env)) (backToKw pos (keywordEach [] X.env)))
/-- len(x) of an instance of a class of the text -/
theorem callLenO (hm : Meth X.K C "__len__" f) (F : FnG X.prog X.w X.K X.mg X.base k f fd ps sp) (hr : RoomG (k + 1) X.A) (hb : Binds X.K fd ps []) (tk : Takes X W) :
    CallR X (.builtin "len") fun xs H Q => ∃ a dx fs, xs = [V.ref a] ∧ H a = some (.ins C dx fs) ∧ sp [V.ref a] H (fun y H2 => ∃ n : Int, y = .int n ∧ 0 ≤ n ∧ n < 2 ^ 63 ∧ Q (.int n) H2) fun _ _ _ => False := by
  intro pins s σ H xs us Q I r h
  obtain ⟨a, dx, fs, rfl, ha, q⟩ := h
  obtain ⟨u, rfl, ru⟩ := vals1 r
  obtain rfl : u = Value.ref a := ru
  have hl : ([Value.ref a] : List Value).length = ps.length := F.len _ _ _ _ q
  have hb' := hb s [.ref a] I.kIn (by rw [List.append_nil]; exact hl)
  rw [List.append_nil] at hb'
  refine Calls.call_function_entry kind_len plain_len entry_len (args_len1 _) ?_
  unfold Builtin.«len»
  refine wpAny_bind (m := oneArg "len" _) (wpAny_pure ?_)
  obtain ⟨mA, M0, _⟩ := ins_get I.hok ha
  obtain ⟨od, Ia, _⟩ := M0.look
  refine wpAny_bind (m := callSpecial? (.ref a) (PySem.Str.ofString "__len__")) (PySem.W.special_fn I.kIn Ia hm.at_ (beq_iff_eq.mp hm.fn) ?_)
  refine wpAny_call (codeAny_mono (F.run X.A.in1 X.stack s H ⟨[.ref a], []⟩ [.ref a] [.ref a] _ _ hr.in1 I.env0.in1 hb' (.cons rfl .nil) q) fun r s' hq => ?_)
  rcases r with e | fl
  · exact tk _ _ (XE.of_call I (fun _ _ _ z => z.elim) hq)
  · rcases fl with _ | _ | _ | u
    all_goals try exact False.elim hq
    obtain ⟨y, H', I3, ry, n, ey, h0, h1, q3⟩ := I.after hq
    subst ey
    obtain ⟨t, rfl⟩ := ry
    dsimp only
    refine wpAny_bind (wpAny_holding (wpAny_pure ?_))
    refine wpAny_bind (wpAny_letGo ?_)
    show wpAny _ _ (if n < 0 then _ else _) _ _ _
    rw [if_neg (by omega)]
    show wpAny _ _ (if n ≥ 2 ^ 63 then _ else _) _ _ _
    rw [if_neg (by omega)]
    exact wpAny_bind (wpAny_mkInt (wpAny_pure ⟨_, rfl, V.int n, H', I3.tok _, ⟨_, rfl⟩, q3⟩))
theorem peMethG (he : PE X o ta) (c : Cls X.K C) (hm : Meth X.K C m f) (F : FnG X.prog X.w X.K X.mg X.base k f fd ps sp) (hr : RoomG k X.A) (hb : Binds X.K fd ps []) (tk : Takes X W) (ha : PA X (e :: es) t)
    (hst : starEach (e :: es) X.env = (false, eval e X.env) :: starEach es X.env) (hpl : (backTo pos (starEach es X.env)).any (·.1) = false) (ht : MethTree X o m apos (e :: es) pos) :
    PE X (.Call (.Attribute o m apos) (e :: es) [] pos) fun σ H Q => ta σ H fun x H1 => ∃ a dx fs, x = .ref a ∧ H1 a = some (.ins C dx fs) ∧ fs.lookup m = none ∧
      t σ H1 fun vs H2 => sp (.ref a :: vs) H2 Q fun c d H3 => W c d σ H3 := by
  obtain ⟨pl, ht⟩ := ht
  refine ⟨fun pins s σ H Q I h => PySem.W.methodCall_KW (pl := pl) (thn (he.run pins s σ H _ I h) fun u s1 ⟨x, H1, I1, rx, a, dx, fs, ex, ea, l, q⟩ => ?_) ht⟩
  subst ex
  cases rx
  refine getmeth_ok I1 ea c hm l (PySem.W.callWith_K (first := [.ref a]) (h₀ := X.base) I.ok.mod.kin hm.kp (thn (ha.run pos pins s1 σ H1 _ I1 q) fun us s2 ⟨vs, H2, I2, r, q2⟩ => ⟨I2.kIn, ?_⟩) hst hpl)
  exact runG (us := .ref a :: us) (vs := .ref a :: vs) F hr hb tk I2 (.cons rfl r) q2
theorem peMethG0 (he : PE X o ta) (c : Cls X.K C) (hm : Meth X.K C m f) (F : FnG X.prog X.w X.K X.mg X.base k f fd ps sp) (hr : RoomG k X.A) (hb : Binds X.K fd ps []) (tk : Takes X W) (ht : MethTree X o m apos [] pos) :
    PE X (.Call (.Attribute o m apos) [] [] pos) fun σ H Q => ta σ H fun x H1 => ∃ a dx fs, x = .ref a ∧ H1 a = some (.ins C dx fs) ∧ fs.lookup m = none ∧
      tNil σ H1 fun vs H2 => sp (.ref a :: vs) H2 Q fun c d H3 => W c d σ H3 := by
  obtain ⟨pl, ht⟩ := ht
  refine ⟨fun pins s σ H Q I h => PySem.W.methodCall_KW (pl := pl) (thn (he.run pins s σ H _ I h) fun u s1 ⟨x, H1, I1, rx, a, dx, fs, ex, ea, l, q⟩ => ?_) ht⟩
  subst ex
  cases rx
  exact getmeth_ok I1 ea c hm l (PySem.W.callWith_K0 (first := [.ref a]) I1.kIn hm.kp (runG (us := [.ref a]) (vs := [.ref a]) F hr hb tk I1 (.cons rfl .nil) q))

theorem runMakeG {pins : List (Addr × Obj)} {σ : L2.St} {H : Hp} {s : Shared} {Q : VK} {us : List Value} {vs : List V} (M : Mk X.K C f) (F : FnG X.prog X.w X.K X.mg X.base k f fd ps sp) (hr : RoomG (k + 1) X.A) (hb : Binds X.K fd ps [])
    (tk : Takes X W) (I : Inv X pins σ H s) (r : Vals vs us)
    (h : ∀ x dx, H x = none → H dx = none → dx ≠ x → sp (.ref x :: vs) (upd (upd H dx (.own x)) x (.ins C dx [])) (fun v H2 => v = .non ∧ Q (.ref x) H2) fun c d H' => W c d σ H') :
    wpAny (model X.prog X.w) X.A (call (.ref C) us) (EP X pins σ Q) X.xe s := by
  have hq := h (s.heap.objs.size + 1) s.heap.objs.size (I.hok.fresh (Nat.le_succ _)) (I.hok.fresh (Nat.le_refl _)) (Nat.ne_of_lt (Nat.lt_succ_self _))
  have I2 := Inv.made (C := C) I
  have r2 : Vals (V.ref (s.heap.objs.size + 1) :: vs) (Value.ref (s.heap.objs.size + 1) :: us) := .cons rfl r
  have hl : (Value.ref (s.heap.objs.size + 1) :: us).length = ps.length := r2.length.symm.trans (F.len _ _ _ _ hq)
  have hb' := hb _ (Value.ref (s.heap.objs.size + 1) :: us) I2.kIn (by rw [List.append_nil]; exact hl)
  rw [List.append_nil] at hb'
  refine wpAny_call (make_map (f := f) I.kIn M.makes M.init (beq_iff_eq.mp M.fn) (codeAny_mono (F.run (X.A.under (.builtin "type.__call__" ⟨.ref C :: us, []⟩)) X.stack _ _ ⟨Value.ref (s.heap.objs.size + 1) :: us, []⟩ (Value.ref (s.heap.objs.size + 1) :: us) _ _ _ (hr.make C us [])
    (I2.env0.make C us []) hb' r2 hq) fun r s' hq' => ?_))
  rcases r with e | fl
  · exact tk _ _ (XE.of_call I2 (fun _ _ _ z => z) hq')
  · rcases fl with _ | _ | _ | u
    all_goals try exact False.elim hq'
    obtain ⟨v, H', I3, rv, ev, q3⟩ := I2.after hq'
    subst ev
    exact ⟨rv, ⟨V.ref (s.heap.objs.size + 1), H', I3, rfl, q3⟩⟩
theorem peMakeG (M : Mk X.K C f) (F : FnG X.prog X.w X.K X.mg X.base k f fd ps sp) (hr : RoomG (k + 1) X.A) (hb : Binds X.K fd ps []) (tk : Takes X W) (hg : Gl X x) (hm : X.mg x = some (.ref C))
    (ha : PA X (e :: es) t) (hdb : (x == ("__debug__" : Str)) = false) (he : starEach (e :: es) X.env = (false, eval e X.env) :: starEach es X.env) (hpl : (backTo pos (starEach es X.env)).any (·.1) = false) :
    PE X (.Call (.Name x p) (e :: es) [] pos) fun σ H Q => t σ H fun vs H1 => ∀ x dx, H1 x = none → H1 dx = none → dx ≠ x →
      sp (.ref x :: vs) (upd (upd H1 dx (.own x)) x (.ins C dx [])) (fun u H2 => u = .non ∧ Q (.ref x) H2) fun c d H2 => W c d σ H2 := by
  refine ⟨fun pins s σ H Q I h => wpAny_Call_Name_kw (ld_glob I hg hm ?_ hdb)⟩
  refine PySem.W.callWith_K (h₀ := X.base) I.ok.mod.kin M.kp (thn (ha.run pos pins s σ H _ I h) fun us s1 ⟨vs, H1, I1, r, q⟩ => ⟨I1.kIn, ?_⟩) he hpl
  exact runMakeG M F hr hb tk I1 r q
theorem peMakeG0 (M : Mk X.K C f) (F : FnG X.prog X.w X.K X.mg X.base k f fd ps sp) (hr : RoomG (k + 1) X.A) (hb : Binds X.K fd ps []) (tk : Takes X W) (hg : Gl X x) (hm : X.mg x = some (.ref C))
    (hdb : (x == ("__debug__" : Str)) = false) :
    PE X (.Call (.Name x p) [] [] pos) fun σ H Q => tNil σ H fun vs H1 => ∀ x dx, H1 x = none → H1 dx = none → dx ≠ x →
      sp (.ref x :: vs) (upd (upd H1 dx (.own x)) x (.ins C dx [])) (fun u H2 => u = .non ∧ Q (.ref x) H2) fun c d H2 => W c d σ H2 := by
  refine ⟨fun pins s σ H Q I h => wpAny_Call_Name_kw (ld_glob I hg hm ?_ hdb)⟩
  exact PySem.W.callWith_K0 I.kIn M.kp (runMakeG (us := []) M F hr hb tk I .nil h)
end

/-- a def by its body -/
theorem fnG_of {P : Program} {w : World} {K : PySem.W.Frag} {mg : Str → Option Value} {base : Heap} {k : Nat} {f : Addr} {name qual : Str} {params : Arguments} {body : List Stmt} {scope : Scope} {dV kV doc pm cdv ct oc : Value} {an od : Option Addr}
    {osl : Array (Option Value)} {N ps : List Str} {sp : Sp} (lk : K.lookup f = some ⟨oc, od, .func (PySem.W.fnOf name qual params body scope dV kV doc pm an cdv ct), osl⟩) (hcd : PySem.W.codeIn K cdv qual = true) (S : FnScope N ps scope)
    (len : ∀ vs H Q E, sp vs H Q E → vs.length = ps.length)
    (hbody : ∀ (A : Around) (outer : List Env) (s : Shared) (H : Hp) (vs : List V) (Q : VK) (E : XK), RoomG k (A.deeper (envOfC qual scope s.heap.objs.size f cdv)) → sp vs H Q E →
      ∃ t, PSs (cxOf (CX P w) P w K mg base N qual scope f cdv A outer s H E) body t ∧ t { nx := fun _ H' => Q .non H', rt := Q } (start N vs) H) :
    FnG P w K mg base (k + 1) f (PySem.W.fnOf name qual params body scope dV kV doc pm an cdv ct) ps sp := by
  refine ⟨len, fun A outer s H args us vs Q E hr e0 hb r hsp => ?_⟩
  have hl := len _ _ _ _ hsp
  have kept : ∀ b o, base.get? b = some o → s.heap.get? b = some o := fun b o z => (e0.bs b o z).1
  have KX : K.In s.heap := e0.mod.kin.keeps kept
  have lim : s.heap.NoLimit := e0.mod.nolimit.keeps kept
  have kinds : ∀ y ∈ ps.zip us, scope.names.lookup y.1 = some .local ∨ (scope.names.lookup y.1 = some .cell ∧ ((cellsFrom (s.heap.objs.size + 1) scope.names []).lookup y.1).isSome = true) := by
    rintro ⟨n, v⟩ hy
    exact (S.par n (List.of_mem_zip hy).1).imp (fun q => q) fun q => ⟨q, PySem.W.cellsFrom_some _ _ _ (.inl q)⟩
  refine codeAny_call_function hr.r.depth (KX _ _ lk) rfl S.co S.gen rfl (PySem.W.codeRec_of KX hcd) (hb _ _ _ _ (wpAny_newFunctionEnv_cells S.kind kinds fun env he s1 x => ?_))
  subst he
  refine ⟨lim.keeps x.toInCall.keep, codeAny_func ?_⟩
  obtain ⟨t, ht, hq⟩ := hbody A outer s H vs Q E (hr.deeper _) hsp
  have I := inv_start (CX := CX P w) (qual := qual) (cd := cdv) (f := f) (E := E) S hr.r.hd e0 hl r x
  refine wpAny_mono (ht.run [] s1 (start N vs) H _ I hq) (fun fl s' hs => ?_) fun e s' hs => hs
  rcases fl with _ | _ | _ | u
  · obtain ⟨σ', H', J, q⟩ := hs
    exact ⟨V.non, H', J.os, J.bare, J.base, J.hok, rfl, q⟩
  · obtain ⟨_, _, _, q⟩ := hs
    exact False.elim q
  · obtain ⟨_, _, _, q⟩ := hs
    exact False.elim q
  · obtain ⟨v, σ', H', J, rv, q⟩ := hs
    exact ⟨v, H', J.os, J.bare, J.base, J.hok, rv, q⟩
end DI

/-! DI, part 5: the look that a code is the code of a tree. -/
namespace DI
open L2
open PySem.Spec
open PyProof.Rows hiding St
open PySem

/-- what the look hangs on: the frame's names and scope; the names of the defs, classes, constants by number; which of them are known -/
structure CK where
  N : List Str
  sc : Scope
  fn : Nat → Str
  cn : Nat → Str
  gn : Nat → Str
  calls : List Nat
  mths : List (Nat × Nat × Str)
  mks : List (Nat × Nat)
  flds : List (Nat × Str)
  gls : List Nat
  kw : Nat → List Str := fun _ => []
  blk : Bool := false
  /-- the names of the block itself -/
  bn : List (Str × NameKind) := []
  /-- the exception classes: number, field; within an except suite -/
  exs : List (Nat × Str) := []
  bases : List Nat := []
  hot : Bool := false

/-- a def that is called without keywords -/
def CK.cl (t : CK) (f : Nat) : Bool := t.calls.contains f && (t.kw f).isEmpty
def CK.mt (t : CK) (C m : Nat) (nm : Str) : Bool := t.mths.contains (C, m, nm) && (t.kw m).isEmpty
def CK.mkq (t : CK) (C f : Nat) : Bool := t.mks.contains (C, f) && (t.kw f).isEmpty
def glB (sc : Scope) (x : Str) : Bool := decide (sc.names.lookup x = some .globalImplicit)
def visB (sc : Scope) (x : Str) : Bool := decide (sc.names.lookup x = some .local) || decide (sc.names.lookup x = some .cell) || decide (sc.names.lookup x = some .free)
def locB (sc : Scope) (x : Str) : Bool := decide (sc.names.lookup x = some .local) || decide (sc.names.lookup x = some .cell)
def dbgB (x : Str) : Bool := !(x == ("__debug__" : Str)) && !(x == ("__classdict__" : Str))
/-- not a star, a slice, a set, a comprehension; plain as a test; plain ahead of a point -/
def nStar : Expr → Bool
  | .Starred _ _ => false
  | _ => true
def nSl : Expr → Bool
  | .Slice _ _ _ _ => false
  | _ => true
def nSet : Expr → Bool
  | .Set _ _ _ => false
  | _ => true
def nCmp : Expr → Bool
  | .ListComp _ _ _ _ => false
  | .SetComp _ _ _ _ => false
  | .DictComp _ _ _ _ _ => false
  | _ => true
def nTest : Expr → Bool
  | .UnaryOp .Not _ _ => false
  | .BoolOp _ _ _ => false
  | .IfExp _ _ _ _ => false
  | .Compare _ _ _ _ => false
  | _ => true
def nBase : Expr → Bool
  | .Call (.Attribute _ _ _) _ _ _ => true
  | .Call _ _ _ _ => false
  | _ => true
def nPair : Expr → Bool
  | .Tuple _ _ _ => false
  | .List _ _ => false
  | _ => true
/-- a tuple to a tuple of targets that is unpacked, not swapped -/
def foldB : Expr → Expr → Bool
  | .Tuple ts _ _, .Tuple vs _ _ => vs.all (foldedForSure 8) || !(ts.length == 2 || ts.length == 3)
  | _, _ => false
def allSome (l : List (Option Expr)) : Bool := l.all (·.isSome)
def somes (l : List (Option Expr)) : List Expr := l.filterMap id
def tyNames : List String := ["int", "bool", "str", "list", "tuple", "dict"]
/-- the comprehension's own names and their slots -/
def ownP (N : List Str) (own : List Nat) : List (Str × Nat) := own.map fun i => (N.getD i "", i)
theorem ownP_snd (N : List Str) (own : List Nat) : (ownP N own).map (·.2) = own := by
  unfold ownP
  rw [List.map_map]
  induction own with
  | nil => rfl
  | cons a r ih => rw [List.map_cons, ih]; rfl

def litB (x : V) : Const → Bool
  | .int i => decide (x = .int i)
  | .bool b => decide (x = .bl b)
  | .str s => decide (x = .str s)
  | .none => decide (x = .non)
  | _ => false
/-- a target beside which a comprehension is not swapped -/
def cellT (sc : Scope) : Expr → Bool
  | .Name x _ => !decide (sc.names.lookup x = some .local)
  | _ => true
/-- names that take a tuple's items, stored from the right -/
def noStars (l : List Expr) : Bool := !l.any fun | .Starred .. => true | _ => false
def parB (sc : Scope) (ns : List (Str × Pos)) (vs : List Expr) : Bool := decide (sc.kind = .function) && (ns.all fun p => decide (sc.names.lookup p.1 = some .local)) && (ns.all fun p => p.2.line == ((ns.head?.map (·.2.line)).getD 0)) &&
  decide ((ns.map (·.1)).eraseDups.length = ns.length) && noStars vs && !(vs.all (foldedForSure 8)) && !(vs.all (constantsAlone 8))
theorem parB_loc {sc : Scope} {ns : List (Str × Pos)} {vs : List Expr} (h : parB sc ns vs = true) : ∀ p ∈ ns, sc.names.lookup p.1 = some .local := by
  unfold parB at h
  simp only [Bool.and_eq_true, List.all_eq_true, decide_eq_true_eq] at h
  exact h.1.1.1.1.1.2
mutual
def Xp.chk : Xp → CK → Expr → Bool
  | .v i, t, e => match e with
    | .Name x _ => decide (t.N[i]? = some x) && visB t.sc x && dbgB x
    | _ => false
  | .c x, t, e => match e with
    | .Constant k _ _ => litB x k
    | _ => false
  | .g i, t, e => match e with
    | .Name x _ => decide (x = t.gn i) && t.gls.contains i && glB t.sc x && dbgB x
    | _ => false
  | .ty n, t, e => match e with
    | .Name x _ => decide (x = Str.ofString n) && tyNames.contains n && glB t.sc x
    | _ => false
  | .bin op a b, t, e => match e with
    | .BinOp l o r _ => decide (o = op) && a.chk t l && b.chk t r
    | _ => false
  | .neg a, t, e => match e with
    | .UnaryOp .USub l _ => a.chk t l
    | _ => false
  | .cmp op a b, t, e => match e with
    | .Compare l [o] [r] _ => decide (o = op) && nSet r && a.chk t l && b.chk t r
    | _ => false
  | .chn o1 o2 a b c, t, e => match e with
    | .Compare l [p1, p2] [r1, r2] _ => decide (p1 = o1) && decide (p2 = o2) && nSet r2 && a.chk t l && b.chk t r1 && c.chk t r2
    | _ => false
  | .and a b, t, e => match e with
    | .BoolOp .And [l, r] _ => a.chk t l && b.chk t r
    | .BoolOp .And (l :: r :: r2 :: rest) p => a.chk t l && b.chk t (.BoolOp .And (r :: r2 :: rest) p)
    | _ => false
  | .or a b, t, e => match e with
    | .BoolOp .Or [l, r] _ => a.chk t l && b.chk t r
    | .BoolOp .Or (l :: r :: r2 :: rest) p => a.chk t l && b.chk t (.BoolOp .Or (r :: r2 :: rest) p)
    | _ => false
  | .not a, t, e => match e with
    | .UnaryOp .Not l _ => a.chk t l
    | _ => false
  | .ite c a b, t, e => match e with
    | .IfExp x l r _ => c.chk t x && a.chk t l && b.chk t r
    | _ => false
  | .tup es, t, e => match e with
    | .Tuple l _ _ => es.chk t l
    | _ => false
  | .lst es, t, e => match e with
    | .List l _ => es.chk t l
    | _ => false
  | .dct0, _, e => match e with
    | .Dict [] [] _ => true
    | _ => false
  | .dctT0, _, e => match e with
    | .Dict [] [] _ => true
    | _ => false
  | .dct ks vs, t, e => match e with
    | .Dict keys values _ => allSome keys && decide (keys ≠ []) && decide (keys.length ≤ 15) && ks.chk t (somes keys) && vs.chk t values && decide (keys.length = values.length)
    | _ => false
  | .dget d k x, t, e => match e with
    | .Call (.Attribute r m ap) [l1, l2] [] p => decide (m = ("get" : Str)) && nBase r && (ap.endLine == p.line) && nStar l1 && nStar l2 && d.chk t r && k.chk t l1 && x.chk t l2
    | _ => false
  | .lrg1 a, t, e => match e with
    | .Call (.Name n1 _) [.Call (.Name n2 _) [l] [] _] [] _ => !t.hot && decide (n1 = ("list" : Str)) && decide (n2 = ("range" : Str)) && glB t.sc n1 && glB t.sc n2 && nStar l && a.chk t l
    | _ => false
  | .lrg2 a b, t, e => match e with
    | .Call (.Name n1 _) [.Call (.Name n2 _) [l, r] [] _] [] _ => !t.hot && decide (n1 = ("list" : Str)) && decide (n2 = ("range" : Str)) && glB t.sc n1 && glB t.sc n2 && nStar l && nStar r && a.chk t l && b.chk t r
    | _ => false
  | .chn3 o1 o2 o3 a b c d, t, e => match e with
    | .Compare l [p1, p2, p3] [r1, r2, r3] _ => decide (p1 = o1) && decide (p2 = o2) && decide (p3 = o3) && nSet r3 && a.chk t l && b.chk t r1 && c.chk t r2 && d.chk t r3
    | _ => false
  | .ef i f, t, e => match e with
    | .Attribute (.Name x _) m _ => decide (m = f) && t.hot && decide (t.N[i]? = some x) && visB t.sc x && dbgB x
    | _ => false
  | .ei i C, t, e => match e with
    | .Call (.Name n1 _) [.Name x _, .Name c _] [] _ => decide (n1 = ("isinstance" : Str)) && glB t.sc n1 && t.hot && decide (t.N[i]? = some x) && visB t.sc x && dbgB x && decide (c = t.cn C) && glB t.sc c && dbgB c && ((t.exs.any fun q => decide (q.1 = C)) || t.bases.contains C)
    | _ => false
  | .eib i n, t, e => match e with
    | .Call (.Name n1 _) [.Name x _, .Name c _] [] _ => decide (n1 = ("isinstance" : Str)) && glB t.sc n1 && t.hot && decide (t.N[i]? = some x) && visB t.sc x && dbgB x && decide (c = Str.ofString n) && glB t.sc c && decide (n = "ValueError")
    | _ => false
  | .ix a i, t, e => match e with
    | .Subscript l r _ => a.chk t l && i.chk t r && nSl r
    | _ => false
  | .sl a lo hi, t, e => match e with
    | .Subscript l (.Slice x y none _) _ => a.chk t l && lo.chk t x && hi.chk t y
    | _ => false
  | .rev a, t, e => match e with
    | .Subscript l (.Slice none none (some (.UnaryOp .USub (.Constant (.int 1) _ _) _)) _) _ => a.chk t l
    | _ => false
  | .fld C o f, t, e => match e with
    | .Attribute l x _ => decide (x = f) && t.flds.contains (C, f) && nBase l && o.chk t l
    | _ => false
  | .call f es, t, e => match e with
    | .Call (.Name x _) l [] _ => !t.hot && decide (x = t.fn f) && t.cl f && glB t.sc x && dbgB x && es.chk t l
    | _ => false
  | .callk f es ks, t, e => match e with
    | .Call (.Name x _) (a :: l) kws _ => !t.hot && decide (x = t.fn f) && t.calls.contains f && glB t.sc x && dbgB x && decide (kws.map (·.arg) = (t.kw f).map some) && es.chk t (a :: l) && ks.chk t (kws.map (·.value))
    | _ => false
  | .bits a, t, e => match e with
    | .Call (.Attribute r x ap) [] [] p => decide (x = ("bit_length" : Str)) && nBase r && (ap.endLine == p.line) && a.chk t r
    | _ => false
  | .mk C f es, t, e => match e with
    | .Call (.Name x _) l [] _ => !t.hot && decide (x = t.cn C) && t.mkq C f && glB t.sc x && dbgB x && es.chk t l
    | _ => false
  | .meth m C nm o es, t, e => match e with
    | .Call (.Attribute r x ap) l [] p => !t.hot && decide (x = nm) && t.mt C m nm && nBase r && decide (l.length < 30) && (ap.endLine == p.line) && o.chk t r && es.chk t l
    | _ => false
  | .bc b es, t, e => match e with
    | .Call (.Name x _) (l :: r) [] _ => (!t.hot || decide (b = .isi)) && decide (x = b.name) && glB t.sc x && es.chk t (l :: r)
    | _ => false
  | .lenO m C es, t, e => match e with
    | .Call (.Name x _) (l :: r) [] _ => !t.hot && decide (x = Bf.len.name) && glB t.sc x && t.mt C m "__len__" && es.chk t (l :: r)
    | _ => false
  | .bm m o es, t, e => match e with
    | .Call (.Attribute r x ap) l [] p => !t.hot && decide (x = m.name) && nBase r && decide (l.length < 30) && (ap.endLine == p.line) && o.chk t r && es.chk t l
    | _ => false
  | .mxd mx a d, t, e => match e with
    | .Call (.Name x _) [l] [⟨some nm, r, _⟩] _ => !t.hot && decide (x = (if mx = true then ("max" : Str) else "min")) && decide (nm = ("default" : Str)) && glB t.sc x && nStar l && a.chk t l && d.chk t r
    | _ => false
  | .dc k el tg it ifs own, t, e => match e with
    | .DictComp x y [⟨tt, ii, ff, 0⟩] sc _ => !t.hot && blkC t.N t.sc sc (ownP t.N own) && nSet ii && it.chk t tt ii && tg.chk { t with sc := relS sc t.sc, blk := true, bn := sc.names } tt && ifs.chk { t with sc := relS sc t.sc, blk := true, bn := sc.names } ff && k.chk { t with sc := relS sc t.sc, blk := true, bn := sc.names } x && el.chk { t with sc := relS sc t.sc, blk := true, bn := sc.names } y
    | _ => false
  | .lc el tg it ifs own, t, e => match e with
    | .ListComp y [⟨tt, ii, ff, 0⟩] sc _ => !t.hot && blkC t.N t.sc sc (ownP t.N own) && nSet ii && it.chk t tt ii && tg.chk { t with sc := relS sc t.sc, blk := true, bn := sc.names } tt && ifs.chk { t with sc := relS sc t.sc, blk := true, bn := sc.names } ff && el.chk { t with sc := relS sc t.sc, blk := true, bn := sc.names } y
    | _ => false
def Xpo.chk : Xpo → CK → Option Expr → Bool
  | .no, _, e => match e with
    | none => true
    | some _ => false
  | .so a, t, e => match e with
    | none => false
    | some l => a.chk t l
def Xps.chk : Xps → CK → List Expr → Bool
  | .nil, _, l => match l with
    | [] => true
    | _ => false
  | .cons a r, t, l => match l with
    | e :: es => nStar e && a.chk t e && r.chk t es
    | _ => false
def Tt.chk : Tt → CK → Expr → Bool
  | .tr a, t, e => nTest e && a.chk t e
  | .cmp op a b, t, e => match e with
    | .Compare l [o] [r] _ => decide (o = op) && nSet r && a.chk t l && b.chk t r
    | _ => false
  | .chn o1 o2 a b c, t, e => match e with
    | .Compare l [p1, p2] [r1, r2] _ => decide (p1 = o1) && decide (p2 = o2) && nSet r2 && a.chk t l && b.chk t r1 && c.chk t r2
    | _ => false
  | .chn3 o1 o2 o3 a b c d, t, e => match e with
    | .Compare l [p1, p2, p3] [r1, r2, r3] _ => decide (p1 = o1) && decide (p2 = o2) && decide (p3 = o3) && nSet r3 && a.chk t l && b.chk t r1 && c.chk t r2 && d.chk t r3
    | _ => false
  | .and a b, t, e => match e with
    | .BoolOp .And [l, r] _ => a.chk t l && b.chk t r
    | .BoolOp .And (l :: r :: r2 :: rest) p => a.chk t l && b.chk t (.BoolOp .And (r :: r2 :: rest) p)
    | _ => false
  | .or a b, t, e => match e with
    | .BoolOp .Or [l, r] _ => a.chk t l && b.chk t r
    | .BoolOp .Or (l :: r :: r2 :: rest) p => a.chk t l && b.chk t (.BoolOp .Or (r :: r2 :: rest) p)
    | _ => false
  | .not a, t, e => match e with
    | .UnaryOp .Not l _ => a.chk t l
    | _ => false
def Tto.chk : Tto → CK → List Expr → Bool
  | .no, _, l => match l with
    | [] => true
    | _ => false
  | .so a, t, l => match l with
    | [e] => a.chk t e
    | _ => false
def Sq.chk : Sq → CK → Expr → Expr → Bool
  | .lst a, t, _, e => a.chk t e
  | .tup a, t, _, e => a.chk t e
  | .txt a, t, _, e => a.chk t e
  | .rng1 a, t, _, e => match e with
    | .Call (.Name x _) [l] [] _ => decide (x = ("range" : Str)) && glB t.sc x && nStar l && a.chk t l
    | _ => false
  | .rng2 a b, t, _, e => match e with
    | .Call (.Name x _) [l, r] [] _ => decide (x = ("range" : Str)) && glB t.sc x && nStar l && nStar r && a.chk t l && b.chk t r
    | _ => false
  | .rng3 a b c, t, _, e => match e with
    | .Call (.Name x _) [l, m, r] [] _ => decide (x = ("range" : Str)) && glB t.sc x && nStar l && nStar m && nStar r && a.chk t l && b.chk t m && c.chk t r
    | _ => false
  | .enm a, t, tg, e => match tg, e with
    | .Tuple _ _ _, .Call (.Name x _) [l] [] _ => decide (x = ("enumerate" : Str)) && glB t.sc x && nStar l && a.chk t l
    | _, _ => false
  | .enmT a, t, tg, e => match tg, e with
    | .Tuple _ _ _, .Call (.Name x _) [l] [] _ => decide (x = ("enumerate" : Str)) && glB t.sc x && nStar l && a.chk t l
    | _, _ => false
  | .zip a b, t, tg, e => match tg, e with
    | .Tuple _ _ _, .Call (.Name x _) [l, r] [] _ => decide (x = ("zip" : Str)) && glB t.sc x && nStar l && nStar r && a.chk t l && b.chk t r
    | _, _ => false
  | .zipS a b, t, tg, e => match tg, e with
    | .Tuple _ _ _, .Call (.Name x _) [l, r] [] _ => decide (x = ("zip" : Str)) && glB t.sc x && nStar l && nStar r && a.chk t l && b.chk t r
    | _, _ => false
  | .rvs a, t, _, e => match e with
    | .Call (.Name x _) [l] [] _ => decide (x = ("reversed" : Str)) && glB t.sc x && nStar l && a.chk t l
    | _ => false
  | .rvT a, t, _, e => match e with
    | .Call (.Name x _) [l] [] _ => decide (x = ("reversed" : Str)) && glB t.sc x && nStar l && a.chk t l
    | _ => false
  | .rvr1 a, t, _, e => match e with
    | .Call (.Name n1 _) [.Call (.Name n2 _) [l] [] _] [] _ => decide (n1 = ("reversed" : Str)) && decide (n2 = ("range" : Str)) && glB t.sc n1 && glB t.sc n2 && nStar l && a.chk t l
    | _ => false
  | .rvr2 a b, t, _, e => match e with
    | .Call (.Name n1 _) [.Call (.Name n2 _) [l, r] [] _] [] _ => decide (n1 = ("reversed" : Str)) && decide (n2 = ("range" : Str)) && glB t.sc n1 && glB t.sc n2 && nStar l && nStar r && a.chk t l && b.chk t r
    | _ => false
  | .any a b, t, tg, e => a.chk t tg e && b.chk t tg e
def Tg.chk : Tg → CK → Expr → Bool
  | .nm i, t, e => match e with
    | .Name x _ => decide (t.N[i]? = some x) && (if t.blk = true then decide (t.sc.names.lookup x = some .local) || (decide (t.sc.names.lookup x = some .cell) && decide (t.bn.lookup x = some .cell)) else locB t.sc x)
    | _ => false
  | .tup gs, t, e => match e with
    | .Tuple l _ _ => !t.hot && gs.chk t l
    | _ => false
  | .sub o i, t, e => match e with
    | .Subscript l r _ => nSl r && o.chk t l && i.chk t r
    | _ => false
def Tgs.chk : Tgs → CK → List Expr → Bool
  | .nil, _, l => match l with
    | [] => true
    | _ => false
  | .cons a r, t, l => match l with
    | e :: es => nStar e && a.chk t e && r.chk t es
    | _ => false
end
mutual
def Sm.chk : Sm → CK → Stmt → Bool
  | .asg g e, t, s => match s with
    | .Assign [tg] y _ => (nCmp y || cellT t.sc tg) && nStar tg && (nPair tg || nPair y || foldB tg y) && g.chk t tg && e.chk t y
    | _ => false
  | .asl i el tg it ifs own, t, s => match s with
    | .Assign [.Name x px] (.ListComp y [⟨tt, ii, ff, 0⟩] sc p) sp => !t.hot && decide (t.N[i]? = some x) && decide (t.sc.names.lookup x = some .local) && (px.line == p.line) &&
        !(sc.names.any fun (n, k) => n == x && (k == .local || k == .cell)) && decide (t.sc.kind = .function) &&
        blkC t.N t.sc sc (ownP t.N own) && nSet ii && it.chk t tt ii && tg.chk { t with sc := relS sc t.sc, blk := true, bn := sc.names } tt && ifs.chk { t with sc := relS sc t.sc, blk := true, bn := sc.names } ff && el.chk { t with sc := relS sc t.sc, blk := true, bn := sc.names } y
    | _ => false
  | .par i j a b, t, s => match s with
    | .Assign [.Tuple [.Name x px, .Name y py] _ _] (.Tuple [e1, e2] _ _) _ => !t.hot && decide (t.N[i]? = some x) && decide (t.N[j]? = some y) && decide (i ≠ j) && parB t.sc [(x, px), (y, py)] [e1, e2] && nStar e1 && nStar e2 && a.chk t e1 && b.chk t e2
    | _ => false
  | .par3 i j l a b c, t, s => match s with
    | .Assign [.Tuple [.Name x px, .Name y py, .Name z pz] _ _] (.Tuple [e1, e2, e3] _ _) _ => !t.hot && decide (t.N[i]? = some x) && decide (t.N[j]? = some y) && decide (t.N[l]? = some z) && decide (i ≠ j) && decide (i ≠ l) && decide (j ≠ l) &&
        parB t.sc [(x, px), (y, py), (z, pz)] [e1, e2, e3] && nStar e1 && nStar e2 && nStar e3 && a.chk t e1 && b.chk t e2 && c.chk t e3
    | _ => false
  | .fld C o f e, t, s => match s with
    | .Assign [.Attribute l x _] y _ => decide (x = f) && t.flds.contains (C, f) && o.chk t l && e.chk t y
    | _ => false
  | .aug i op e, t, s => match s with
    | .AugAssign (.Name x _) o y _ => decide (o = op) && decide (t.N[i]? = some x) && locB t.sc x && !t.blk && e.chk t y
    | _ => false
  | .augf C o f op e, t, s => match s with
    | .AugAssign (.Attribute l x _) op' y _ => decide (op' = op) && decide (x = f) && t.flds.contains (C, f) && o.chk t l && e.chk t y
    | _ => false
  | .exp e, t, s => match s with
    | .Expr y _ => nCmp y && e.chk t y
    | _ => false
  | .ret e, t, s => match s with
    | .Return (some y) _ => e.chk t y
    | _ => false
  | .retN, _, s => match s with
    | .Return none _ => true
    | _ => false
  | .pass, _, s => match s with
    | .Pass _ => true
    | _ => false
  | .brk, _, s => match s with
    | .Break _ => true
    | _ => false
  | .cnt, _, s => match s with
    | .Continue _ => true
    | _ => false
  | .ite c a b, t, s => match s with
    | .If x l r _ => c.chk t x && a.chk t l && b.chk t r
    | _ => false
  | .whl c b, t, s => match s with
    | .While x l [] _ => c.chk t x && b.chk t l
    | _ => false
  | .for_ tg it b, t, s => match s with
    | .For g y l [] _ => !t.hot && nSet y && it.chk t g y && tg.chk t g && b.chk t l
    | _ => false
  | .rai C f es, t, s => match s with
    | .Raise (some (.Call (.Name x _) (l :: r) [] _)) none _ => !t.hot && decide (x = t.cn C) && glB t.sc x && dbgB x && t.exs.contains (C, f) && es.chk t (l :: r)
    | _ => false
  | .tryA b C i sb, t, s => match s with
    | .Try body [.ExceptHandler (some (.Name x _)) (some n) (b0 :: su) _] [] [] _ => !t.hot && !t.blk && decide (x = t.cn C) && glB t.sc x && dbgB x && (t.exs.any (fun q => decide (q.1 = C)) || t.bases.contains C) && decide (t.N[i]? = some n) && decide (t.sc.names.lookup n = some .local) && b.chk t body && sb.chk { t with hot := true } (b0 :: su)
    | _ => false
  | .tryO b C sb, t, s => match s with
    | .Try body [.ExceptHandler (some (.Name x _)) none (b0 :: su) _] [] [] _ => !t.hot && !t.blk && decide (x = t.cn C) && glB t.sc x && dbgB x && (t.exs.any (fun q => decide (q.1 = C)) || t.bases.contains C) && b.chk t body && sb.chk { t with hot := true } (b0 :: su)
    | _ => false
  | .tryM b hs, t, s => match s with
    | .Try body (h :: hds) [] [] _ => !t.hot && !t.blk && b.chk t body && hs.chk t (h :: hds)
    | _ => false
  | .ddel d k, t, s => match s with
    | .Delete [.Subscript l r _] _ => d.chk t l && k.chk t r
    | _ => false
  | .never, _, _ => true
def Sms.chk : Sms → CK → List Stmt → Bool
  | .nil, _, l => match l with
    | [] => true
    | _ => false
  | .cons a r, t, l => match l with
    | s :: ss => a.chk t s && r.chk t ss
    | _ => false
def Hds.chk : Hds → CK → List ExceptHandler → Bool
  | .nil, _, l => match l with
    | [] => true
    | _ => false
  | .cons C sb r, t, l => match l with
    | .ExceptHandler (some (.Name x _)) none (b0 :: su) _ :: hds => decide (x = t.cn C) && glB t.sc x && dbgB x && (t.exs.any (fun q => decide (q.1 = C)) || t.bases.contains C) && sb.chk { t with hot := true } (b0 :: su) && r.chk t hds
    | _ => false
end

/-! ### what the looks say of the trees -/
theorem starEach_cons {e : Expr} (h : nStar e = true) (es : List Expr) (env : Env) : starEach (e :: es) env = (false, eval e env) :: starEach es env := by
  cases e <;> first | rfl | (cases h)
theorem Xps.stars : ∀ {c : Xps} {t : CK} {l : List Expr}, c.chk t l = true → l.all nStar = true
  | .nil, _, [], _ => rfl
  | .nil, _, _ :: _, h => by cases h
  | .cons a r, t, [], h => by cases h
  | .cons a r, t, e :: es, h => by
    simp only [Xps.chk, Bool.and_eq_true] at h
    rw [List.all_cons, h.1.1, Xps.stars h.2]
    rfl
theorem backTo_any {pos : Pos} {env : Env} : ∀ {l : List Expr}, l.all nStar = true → (backTo pos (starEach l env)).any (·.1) = false
  | [], _ => rfl
  | e :: es, h => by
    rw [List.all_cons, Bool.and_eq_true] at h
    rw [starEach_cons h.1]
    show (false || (backTo pos (starEach es env)).any (·.1)) = false
    rw [backTo_any h.2]
    rfl
theorem backTo_all {pos : Pos} {env : Env} : ∀ {l : List Expr}, l.all nStar = true → (backTo pos (starEach l env)).all (fun x => !x.1) = true
  | [], _ => rfl
  | e :: es, h => by
    rw [List.all_cons, Bool.and_eq_true] at h
    rw [starEach_cons h.1]
    show (true && (backTo pos (starEach es env)).all (fun x => !x.1)) = true
    rw [backTo_all h.2]
    rfl
theorem attr_plain {e : Expr} (h : nBase e = true) (f : Str) (env : Env) (w : Sem Value) : attributeBase e f env w = w := by
  cases e with
  | Call g l k p => cases g <;> first | rfl | (cases h)
  | _ => rfl
theorem no_behind {op : CmpOp} {e : Expr} (h : nSet e = true) : behindInMarks op e = false := by
  cases e <;> first | rfl | (cases h)
theorem folded_plain {e : Expr} (h : nSet e = true) (env : Env) (x : Value) : foldedSetIterable e env x = pure x := by
  cases e <;> first | rfl | (cases h)
theorem subs_plain {e : Expr} (h : nSl e = true) (o i : Value) : subscripted e false o i = operate [o, i] (getItem o i) := by
  cases e <;> first | rfl | (cases h)
theorem swap_plain {e : Expr} (h : nCmp e = true) (tg : Option Expr) (l : Nat) (env : Env) : swapsWith e tg l env = pure false := by
  cases e <;> first | rfl | (cases h)
theorem swap_attr (e o : Expr) (a : Str) (p : Pos) (l : Nat) (env : Env) : swapsWith e (some (.Attribute o a p)) l env = pure false := by
  cases e <;> rfl
theorem test_plain {e : Expr} (h : nTest e = true) (env : Env) (whole : Sem Value) : isTrue e env whole = (do let v ← whole; standAt e.pos; holding [v] (truthy v)) := by
  cases e with
  | UnaryOp op a p => cases op <;> first | rfl | (cases h)
  | _ => first | rfl | (cases h)
theorem assign_cons {e : Expr} (h : nStar e = true) (es : List Expr) (env : Env) : assignEach (e :: es) env = (false, assign e env) :: assignEach es env := by
  cases e <;> first | rfl | (cases h)
theorem sub_assign {o i : Expr} {pos : Pos} {env : Env} (h : nSl i = true) (v : Value) : assign (.Subscript o i pos) env v = (do
    let ov ← holding [v] (eval o env)
    let iv ← holding [v, ov] (eval i env)
    standAt pos
    holding [v, ov, iv] (setItem ov iv v)
    release [v, ov, iv] []) := by
  cases i <;> first | rfl | (cases h)
theorem swapped_fold {ts vs : List Expr} {kt kv : Nat} {pt pv : Pos} {env : Env} (h : (vs.all (foldedForSure 8) || !(ts.length == 2 || ts.length == 3)) = true) : swappedStores [.Tuple ts kt pt] (.Tuple vs kv pv) env = pure none := by
  unfold swappedStores
  dsimp only
  split
  · rfl
  · rename_i h1
    have h2 : vs.all (foldedForSure 8) = true := by
      rcases (Bool.or_eq_true _ _).mp h with h | h
      · exact h
      · exfalso
        apply h1
        rw [h]
        rfl
    split
    · rfl
    · split
      · rfl
      · first | rfl | rw [if_pos h2]
theorem swapped_plain {tg e : Expr} {env : Env} (h : (nPair tg || nPair e || foldB tg e) = true) : swappedStores [tg] e env = pure none := by
  cases tg <;> first
    | rfl
    | (cases e <;> first
        | rfl
        | exact swapped_fold h
        | (cases h))
theorem meth_tree {X : Cx} {o : Expr} {m : Str} {apos pos : Pos} {args : List Expr} (hb : nBase o = true) (hn : decide (args.length < 30) = true) (hl : (apos.endLine == pos.line) = true) (ha : args.all nStar = true) :
    MethTree X o m apos args pos := by
  refine ⟨do return (← importBound o X.env).getD true, ?_⟩
  show (do
    let ov ← attributeBase o m X.env (eval o X.env)
    standAt apos.atName
    methodCall o m apos pos X.env ov (args.length + 0) (backTo pos (starEach args X.env)) (backToKw pos (keywordEach [] X.env))) = _
  rw [attr_plain hb]
  have e1 : methodCallForm (args.length + 0) (backTo pos (starEach args X.env)) (backToKw pos (keywordEach [] X.env)) = true := by
    unfold methodCallForm
    rw [backTo_all ha]
    simpa [keywordEach, backToKw] using of_decide_eq_true hn
  have e2 : methodCallPos true o X.env apos pos = pure pos := by
    unfold methodCallPos
    rw [hl]
    rfl
  unfold methodCall
  rw [e1, e2]
  rfl
theorem swap_cell {tg e : Expr} {env : Env} (h : cellT env.scope tg = true) (l : Nat) : swapsWith e (some tg) l env = pure false := by
  cases tg with
  | Name x px =>
    have h2 : (env.kindOf x == some .local) = false := by
      unfold cellT at h
      simp only [Bool.not_eq_true', decide_eq_false_iff_not] at h
      simpa [Env.kindOf] using h
    cases e <;> first | rfl | (show pure (env.blockKind == .function && env.kindOf x == some .local && _ && _) = pure false; rw [h2]; simp)
  | _ => cases e <;> rfl
theorem swapped_2 {x y : Str} {px py pt pt2 : Pos} {kt k2 : Nat} {a b : Expr} {env : Env} (h : parB env.scope [(x, px), (y, py)] [a, b] = true) : swappedStores [.Tuple [.Name x px, .Name y py] kt pt] (.Tuple [a, b] k2 pt2) env = pure (some [x, y]) := by
  unfold parB noStars at h
  simp only [Bool.and_eq_true, Bool.not_eq_true', List.all_cons, List.all_nil, decide_eq_true_eq, Bool.and_true, List.head?_cons, Option.map_some, Option.getD_some, beq_self_eq_true, true_and] at h
  obtain ⟨⟨⟨⟨⟨⟨h1, hx, hy⟩, ly⟩, h5⟩, h6⟩, h7⟩, h8⟩ := h
  have hb : env.blockKind = .function := by unfold Env.blockKind; rw [h1]; rfl
  have kx : env.kindOf x = some .local := hx
  have ky : env.kindOf y = some .local := hy
  have ly : py.line = px.line := by simpa using ly
  have h5 : [x, y].eraseDups.length = 2 := h5
  have e : ([Expr.Name x px, Expr.Name y py].filterMap fun | .Name id pos => if (env.kindOf id == some .local && pos.line == px.line) = true then some id else none | _ => none) = [x, y] := by
    simp [kx, ky, ly]
  show (if (!(2 == 2 || 2 == 3) || 2 != 2 || env.blockKind != ScopeKind.function) = true then _ else _) = _
  rw [hb, if_neg (by decide)]
  refine (if_neg (fun q => absurd (h6.symm.trans q) (by decide))).trans ?_
  refine (if_neg (fun q => ?_)).trans ?_
  · have q : (([Expr.Name x px, Expr.Name y py].filterMap fun | .Name id pos => if (env.kindOf id == some .local && pos.line == px.line) = true then some id else none | _ => none).length != 2 || ([Expr.Name x px, Expr.Name y py].filterMap fun | .Name id pos => if (env.kindOf id == some .local && pos.line == px.line) = true then some id else none | _ => none).eraseDups.length != ([Expr.Name x px, Expr.Name y py].filterMap fun | .Name id pos => if (env.kindOf id == some .local && pos.line == px.line) = true then some id else none | _ => none).length) = true := q
    rw [e, h5] at q
    simp at q
  refine (if_neg (fun q => by simp only [List.all_cons, List.all_nil, Bool.and_true] at q; rw [h7] at q; exact absurd q (by decide))).trans ?_
  refine (if_neg (fun q => by simp only [List.all_cons, List.all_nil, Bool.and_true] at q; rw [h8] at q; exact absurd q (by decide))).trans ?_
  exact congrArg (fun l => pure (some l)) e
theorem swapped_3 {x y z : Str} {px py pz pt pt2 : Pos} {kt k2 : Nat} {a b c : Expr} {env : Env} (h : parB env.scope [(x, px), (y, py), (z, pz)] [a, b, c] = true) : swappedStores [.Tuple [.Name x px, .Name y py, .Name z pz] kt pt] (.Tuple [a, b, c] k2 pt2) env = pure (some [x, y, z]) := by
  unfold parB noStars at h
  simp only [Bool.and_eq_true, Bool.not_eq_true', List.all_cons, List.all_nil, decide_eq_true_eq, Bool.and_true, List.head?_cons, Option.map_some, Option.getD_some, beq_self_eq_true, true_and] at h
  obtain ⟨⟨⟨⟨⟨⟨h1, hx, hy, hz⟩, ly, lz⟩, h5⟩, h6⟩, h7⟩, h8⟩ := h
  have hb : env.blockKind = .function := by unfold Env.blockKind; rw [h1]; rfl
  have kx : env.kindOf x = some .local := hx
  have ky : env.kindOf y = some .local := hy
  have kz : env.kindOf z = some .local := hz
  have ly : py.line = px.line := by simpa using ly
  have lz : pz.line = px.line := by simpa using lz
  have h5 : [x, y, z].eraseDups.length = 3 := h5
  have e : ([Expr.Name x px, Expr.Name y py, Expr.Name z pz].filterMap fun | .Name id pos => if (env.kindOf id == some .local && pos.line == px.line) = true then some id else none | _ => none) = [x, y, z] := by
    simp [kx, ky, kz, ly, lz]
  show (if (!(3 == 2 || 3 == 3) || 3 != 3 || env.blockKind != ScopeKind.function) = true then _ else _) = _
  rw [hb, if_neg (by decide)]
  refine (if_neg (fun q => absurd (h6.symm.trans q) (by decide))).trans ?_
  refine (if_neg (fun q => ?_)).trans ?_
  · have q : (([Expr.Name x px, Expr.Name y py, Expr.Name z pz].filterMap fun | .Name id pos => if (env.kindOf id == some .local && pos.line == px.line) = true then some id else none | _ => none).length != 3 || ([Expr.Name x px, Expr.Name y py, Expr.Name z pz].filterMap fun | .Name id pos => if (env.kindOf id == some .local && pos.line == px.line) = true then some id else none | _ => none).eraseDups.length != ([Expr.Name x px, Expr.Name y py, Expr.Name z pz].filterMap fun | .Name id pos => if (env.kindOf id == some .local && pos.line == px.line) = true then some id else none | _ => none).length) = true := q
    rw [e, h5] at q
    simp at q
  refine (if_neg (fun q => by simp only [List.all_cons, List.all_nil, Bool.and_true] at q; rw [h7] at q; exact absurd q (by decide))).trans ?_
  refine (if_neg (fun q => by simp only [List.all_cons, List.all_nil, Bool.and_true] at q; rw [h8] at q; exact absurd q (by decide))).trans ?_
  exact congrArg (fun l => pure (some l)) e
end DI

/-! DI, part 5x: an exception of the program whose own __init__ says super().__init__(text) and keeps one field. -/
namespace DI
open L2
open PySem.Spec
open PyProof.Rows hiding St
open PySem

/-- the trees of such an __init__ -/
structure SupTxt where
  m : Str
  x : Str
  f : Str
  j : Nat
  (p0 p1 p2 p3 p4 p5 q1 q2 q3 q4 q5 : Pos)
def SupTxt.body (t : SupTxt) : List Stmt :=
  [.Expr (.Call (.Attribute (.Call (.Name "super" t.p0) [] [] t.p1) "__init__" t.p2) [.Constant (.str t.m) t.j t.p3] [] t.p4) t.p5,
   .Assign [.Attribute (.Name "self" t.q1) t.f t.q2] (.Name t.x t.q3) t.q4]
/-- what the written part and the trees say of the class at C -/
structure ExCls (P : Program) (K : PySem.W.Frag) (C : Addr) (f : Str) : Prop where
  oe : OexC K C
  xf : XfC K C
  no : PySem.W.findIn K (.ref C) f = some none
  fn : ∃ (fI cc cda : Addr) (T : SupTxt) (qual : Str) (params : Arguments) (scope : Scope) (dV kV doc pm ct oc ccl cl : Value) (an od cdd cld : Option Addr) (osl ccs csl : Array (Option Value)) (vs : Array Value) (file : Str) (tf : Tok) (ar : Arg),
    PySem.W.findIn K (.ref C) "__init__" = some (some (.ref fI)) ∧ PySem.W.typeIn K (.ref fI) = some (.type "function") ∧ T.f = f ∧
    K.lookup fI = some ⟨oc, od, .func (PySem.W.ksFn "__init__" qual params T.body scope dV kV doc pm an (.ref cda) ct cc), osl⟩ ∧ PySem.W.codeIn K (.ref cda) qual = true ∧
    K.lookup cda = some ⟨ccl, cdd, .fields vs, ccs⟩ ∧ vs[2]? = some (.str file tf) ∧ ((P.main.file : Str) == file) = true ∧
    K.lookup cc = some ⟨cl, cld, .cell (some (.ref C)), csl⟩ ∧ PySem.W.nsIn K mainGlobals "super" = some none ∧ (P.main.scope.names.lookup ("super" : Str)).isSome = false ∧
    PySem.W.ks_superIn K C C "__init__" = some (some (.builtin "ValueError.__init__")) ∧ PySem.W.mroIn K C (.ref C) = some true ∧ PySem.W.subIn K (.ref C) (.type "ValueError") = some true ∧
    PySem.W.nsIn K cStatics "thirdparty.any" = some none ∧
    (params.posonlyargs ++ params.args).head? = some ar ∧ ar.arg = "self" ∧ (T.p2.endLine == T.p4.line) = true ∧ T.x ≠ "self" ∧ (T.x == ("__debug__" : Str)) = false ∧
    scope.names.lookup ("super" : Str) = some .globalImplicit ∧ scope.names.lookup ("__class__" : Str) = some .free ∧ scope.names.lookup ("self" : Str) = some .local ∧ scope.names.lookup T.x = some .local ∧
    (∀ y ∈ scope.names, y.2 ≠ .cell) ∧ scope.isCoroutine = false ∧ scope.isGenerator = false ∧ scope.kind = .function ∧
    (∀ (kV doc pm : Value) (an : Option Addr) (cdv ct : Value) (cc : Addr) (a b : Value), bindArgs (PySem.W.ksFn "__init__" qual params T.body scope .none kV doc pm an cdv ct cc) ⟨[a, b], []⟩ = pure [(("self" : Str), a), (T.x, b)]) ∧ dV = .none

section
variable {prog : Program} {w : World} {A : Around} {E : Value → Shared → Prop} {h : Heap} {g : Array GenState} {d : Drawn} {t : Nat} {os : OsState}
variable {nm q : Str} {C N : Addr} {bs bm : List Value} {hdct : Bool} {sn : List Str} {sub : List Value} {ab : Bool} {col : Option Bool} {dd : Option Addr} {k0 k1 k2 k3 k5 : Option Value}
/-- the bound __init__ of ValueError, called -/
theorem sup_bound {u e t0 : Addr} {rest : List Value} {Q : Value → Shared → Prop}
    (hC : h.get? C = some (excClassObj nm q C N bs bm hdct sn sub ab col dd k0 k1 k2 k3 k5 "ValueError.__new__")) (he : h.get? e = some (PySem.HandSPX.excO C t0)) (hu : h.get? u = some (PySem.W.kxs_mw "ValueError.__init__" e)) (hz : rest.length ≤ sizeLine)
    (fin : ∀ h' t1, (∀ b o, b ≠ e → h.get? b = some o → h'.get? b = some o) → h'.get? e = some (PySem.HandSPX.excO C t1) → Q .none ⟨h', g, d, t, os⟩) :
    wpAny (model prog w) A (call (.ref u) rest) Q E ⟨h, g, d, t, os⟩ := by
  have FB := PySem.F.excBase_ValueError
  refine wpAny_call (codeAny_of_tree (show wpAny (model prog w) A.in1 (callAny (.ref u) ⟨rest, []⟩) _ _ _ from ?_))
  unfold callAny; dsimp only
  refine wpAny_bind (wpAny_load hu ?_)
  have hk : (Value.type "method-wrapper" == Value.type "method" || Value.type "method-wrapper" == Value.type "builtin_function_or_method" || Value.type "method-wrapper" == Value.type "method-wrapper") = true := by decide
  simp only [PySem.W.kxs_mw, hk, if_true]
  refine PySem.W.KFB.if_so (by decide) ?_
  refine wpAny_bind (PySem.W.check_bound_init FB.toExcCallFacts hC he rfl (wpAny_bind (wpAny_pure (wpAny_pure ⟨plainId_quiet FB.init.plain _, codeAny_builtin FB.initEntry ?_⟩))))
  exact PySem.W.exc_init_tree (cls := .ref C) (t0 := t0) (dv := none) (c2 := .none) (c3 := .none) (b4 := .bool false) he hz fun h' k h1 _ => fin h' _ k h1
end

theorem sup_tree {o c : Expr} {m : Str} {apos pos : Pos} {env : Env} (hc : nStar c = true) (hl : (apos.endLine == pos.line) = true) :
    eval (.Call (.Attribute o m apos) [c] [] pos) env = (do
      let ov ← attributeBase o m env (eval o env)
      standAt apos.atName
      let (f, first) ← holding [ov] (getMethod ov m (do return (← importBound o env).getD true))
      callWith pos f first (backTo pos (starEach [c] env)) []) := by
  show (do
    let ov ← attributeBase o m env (eval o env)
    standAt apos.atName
    methodCall o m apos pos env ov ([c].length + 0) (backTo pos (starEach [c] env)) (backToKw pos (keywordEach [] env))) = _
  have hs : [c].all nStar = true := by rw [List.all_cons, hc]; rfl
  have e1 : methodCallForm ([c].length + 0) (backTo pos (starEach [c] env)) (backToKw pos (keywordEach [] env)) = true := by
    unfold methodCallForm
    rw [backTo_all hs]
    simp [keywordEach, backToKw]
  have e2 : methodCallPos true o env apos pos = pure pos := by unfold methodCallPos; rw [hl]; rfl
  unfold methodCall
  rw [e1, e2]
  rfl
/-- the __init__, run -/
theorem sup_init {P : Program} {w : World} {K : PySem.W.Frag} {mg : Str → Option Value} {base : Heap} {A : Around} {outer : List Env} {s : Shared} {H : Hp} {C e t0 fI : Addr} {f : Str} {u : Value} {R : Result → Shared → Prop}
    (X : ExCls P K C f) (hI : PySem.W.findIn K (.ref C) "__init__" = some (some (.ref fI))) (e0 : Env0 P w K mg base A outer s H) (hroom : A.depth < recursionLimit) (he : s.heap.get? e = some (PySem.HandSPX.excO C t0)) (hKe : K.lookup e = none)
    (hq : ∀ h' tk' dx t1, (∀ b o, b ≠ e → s.heap.get? b = some o → h'.get? b = some o) → s.heap.objs.size ≤ dx → dx ≠ e → h'.get? e = some { cls := .ref C, dict := some dx, data := .fields #[.ref t1, .none, .none, .none, .bool false, .none] } →
      h'.Ns1 dx (fun y => if y = f then some u else none) → R (.ok (.ret .none)) { s with heap := h', toks := tk' }) :
    codeAny (model P w) A (.call (.ref fI) ⟨[.ref e, u], []⟩) R s := by
  obtain ⟨⟨nm, q, N, bs, bm, sn, sub, ab, col, dd, k0, k1, k2, k3, k5, hC, hbm⟩, sa, exC, tyC, kC⟩ := X.oe
  obtain ⟨fI', cc, cda, T, qual, params, scope, dV, kV, doc, pm, ct, oc, ccl, cl, an, od, cdd, cld, osl, ccs, csl, vs, file, tf, ar, hi', hty, hTf, lk, hcd, hcode, hvs, hfile, hcell, hsup, htop, hsi, hmro, hVE, hthird, har, harg, hline, hxs, hxd, sSup, sCls, sSelf, sX, hnc, hco, hgen, hkind, hbind, hdV⟩ := X.fn
  have ef : fI' = fI := by rw [hI] at hi'; cases hi'; rfl
  subst ef
  subst hTf
  subst hdV
  have kept : ∀ b o, base.get? b = some o → s.heap.get? b = some o := fun b o z => (e0.bs b o z).1
  have KX : K.In s.heap := e0.mod.kin.keeps kept
  have lim : s.heap.NoLimit := e0.mod.nolimit.keeps kept
  have hNs : s.heap.Ns mainGlobals mg := e0.mod.glob.keeps kept
  obtain ⟨mb, hb1, hb2⟩ := e0.mod.blt
  have hBs : s.heap.Ns builtinsNs mb := hb1.keeps kept
  have hcls : PySem.W.clsIn K C = some { name := nm, bases := bs, mro := .ref C :: bm, ns := N, qualname := q, hasDict := true, slotNames := sn, subclasses := sub, abstract := ab, collection := col, hasDel := false } := by unfold PySem.W.clsIn; rw [hC] <;> rfl
  have hloc : ∀ y ∈ [(("self" : Str), Value.ref e), (T.x, u)], scope.names.lookup y.1 = some .local := by
    intro y hy
    simp only [List.mem_cons, List.not_mem_nil, or_false] at hy
    rcases hy with rfl | rfl
    · exact sSelf
    · exact sX
  refine PySem.ks_codeAny_call_defAt (fd := PySem.W.ksFn "__init__" qual params T.body scope .none kV doc pm an (.ref cda) ct cc) (body := T.body) (binds := [(("self" : Str), .ref e), (T.x, u)]) hroom (KX _ _ lk) rfl lim (PySem.W.codeRec_of KX hcd) rfl (.of_eq (hbind _ _ _ _ _ _ _ _ _)) hnc hloc (fun h₁ hns k₁ => ?_) hco hgen hkind
  have K1 : K.In h₁ := KX.keeps k₁
  have he1 := k₁ _ _ he
  have eC : e ≠ C := by
    rintro rfl
    have z := (KX _ _ hC).symm.trans he
    cases z
  obtain ⟨oD, hD1, hD2⟩ : ∃ oD, h₁.get? C = some oD ∧ ∃ cd, oD.data = .cls cd := ⟨_, K1 _ _ hC, _, rfl⟩
  obtain ⟨cdD, hD2⟩ := hD2
  have I1 : PySem.W.InstAt h₁ e (PySem.HandSPX.excO C t0) C none := ⟨he1, rfl, rfl, trivial⟩
  have hself : (fun x => ([(("self" : Str), Value.ref e), (T.x, u)] : List (Str × Value)).reverse.lookup x) ("self" : Str) = some (.ref e) := by
    show List.lookup ("self" : Str) ([(T.x, u), (("self" : Str), Value.ref e)] : List (Str × Value)) = _
    have : (("self" : Str) == T.x) = false := by simpa using Ne.symm hxs
    simp [List.lookup, this]
  have hxv : (fun x => ([(("self" : Str), Value.ref e), (T.x, u)] : List (Str × Value)).reverse.lookup x) T.x = some u := by
    show List.lookup T.x ([(T.x, u), (("self" : Str), Value.ref e)] : List (Str × Value)) = _
    simp [List.lookup]
  have eL : e ≠ s.heap.objs.size := Nat.ne_of_lt (Heap.lt_size he)
  have hint : interactive (callEnv (PySem.W.ksFn "__init__" qual params T.body scope .none kV doc pm an (.ref cda) ct cc) s.heap.objs.size fI') = false := by
    show (scope.kind == ScopeKind.module && _) = false
    rw [hkind]
    rfl
  refine PySem.ks_wpAt_execs_cons (PySem.ks_wpAt_Expr_any (PySem.ks_wpAt_MethodCall (pl := do return (← importBound (.Call (.Name "super" T.p0) [] [] T.p1) (callEnv (PySem.W.ksFn "__init__" qual params T.body scope .none kV doc pm an (.ref cda) ct cc) s.heap.objs.size fI')).getD true) (PySem.ks_wpAt_super_base (f := fI') (cc := cda) (ar := ar) sSup sCls (by decide +kernel) rfl (K1 _ _ lk) rfl har rfl (K1 _ _ hcode) rfl hvs hfile htop ?_) (sup_tree rfl hline)) hint rfl)
  · refine PySem.W.ks_loadName_global hkind sSup (Calls.loadGlobal_builtin (hNs.keeps k₁) (PySem.W.mg_none_of KX hNs hsup) (hBs.keeps k₁) ((hb2 _ (by decide +kernel)).trans (show bootBuiltins "super" = some (.type "super") by decide +kernel)) ⟨rfl, ?_⟩)
    refine wpAny_loadName_free hkind sCls rfl ⟨_, K1 _ _ hcell, rfl⟩ ?_
    rw [harg]
    refine wpAny_loadName_local hkind sSelf hns hself ?_
    refine PySem.ks_wpAny_isType_cls hD1 hD2 ⟨rfl, ?_⟩
    refine PySem.ks_wpAny_call_super hD1 hD2 he1 rfl (fun c z => by cases z) (PySem.W.looks_mroIn K1 hmro) fun h₂ hso k₂ => ?_
    have K2 : K.In h₂ := K1.keeps k₂
    have I2 : PySem.W.InstAt h₂ e (PySem.HandSPX.excO C t0) C none := ⟨k₂ _ _ he1, rfl, rfl, trivial⟩
    have hsi' : PySem.W.alongIn K "__init__" (((Value.ref C :: bm).dropWhile (· != .ref C)).drop 1) = some (some (.builtin "ValueError.__init__")) := by
      have z := hsi
      unfold PySem.W.ks_superIn at z
      rw [hcls] at z
      exact z
    refine PySem.W.kxs_getMethod PySem.W.kxs_ValueError hso (PySem.W.looks_opaque K2 hthird) (l₀ := .ref C :: bm) (fun A Q E s k q => wpAny_bind ((PySem.W.looks_clsIn K2 hcls) A _ E s k (wpAny_pure q))) rfl K2 hsi' (I2.type.andThen (PySem.W.looks_subIn K2 hVE)) eC (by decide +kernel) ?_
    refine PySem.W.kxs_callWith (i := "ValueError.__init__") (x := e) (by rfl) (Calls.evalArgs_plain (Calls.spliced_cons (Calls.Constant_str (k := T.j) (pos := T.p3) (Calls.spliced_nil ⟨?_, ?_⟩))))
    · exact Heap.get?_push_at rfl rfl
    have K3 : K.In (h₂.push (PySem.W.kxs_mw "ValueError.__init__" e)) := K2.keeps fun b o z => Heap.get?_push_of_some _ z
    refine sup_bound (K3 _ _ hC) (Heap.get?_push_of_some _ (k₂ _ _ he1)) (Heap.get?_push_at rfl rfl) (by show 1 ≤ sizeLine; decide) fun h₄ t1 k₄ he4 => ?_
    have k14 : ∀ b o, b ≠ e → h₁.get? b = some o → h₄.get? b = some o := fun b o hb z => k₄ b o hb (Heap.get?_push_of_some _ (k₂ _ _ z))
    refine PySem.ks_wpAt_execs_cons (PySem.ks_wpAt_Assign_Attr ?_ rfl)
    have hns4 : h₄.Ns s.heap.objs.size fun x => ([(("self" : Str), Value.ref e), (T.x, u)] : List (Str × Value)).reverse.lookup x := hns.at fun o z => k14 _ o (Ne.symm eL) z
    refine wpAt_of_wpAny (wpAny_Name (wpAny_loadName_local hkind sX hns4 hxv ?_) hxd)
    refine wpAny_Name (wpAny_loadName_local hkind sSelf hns4 hself ?_) (by decide)
    have K4 : K.In h₄ := fun b o z => k14 b o (fun y => by
      rw [y, hKe] at z
      cases z) (K1 b o z)
    refine PySem.W.set_plain K4 (ox := PySem.HandSPX.excO C t1) (od := none) ⟨he4, rfl, rfl, trivial⟩ sa ?_
    refine PySem.HandSPX.exc_osa K4 he4 hcls (show PySem.HandSPX.refsVE (.ref C :: bm) = true from hbm) rfl X.no (fun h₅ tk' dx k₅ dn dne hx hn => ?_)
    have k15 : ∀ b o, b ≠ e → s.heap.get? b = some o → h₅.get? b = some o := fun b o hb z => k₅ b o hb (k14 b o hb (k₁ b o z))
    have hsz : s.heap.objs.size ≤ dx := by
      obtain ⟨oL, esL, epL, hoL, _⟩ := hns4
      exact Nat.le_trans (Nat.le_of_lt (Heap.lt_size hoL)) dn
    exact wpAt_of_wpAny (wpAny_pure (hq h₅ tk' dx t1 k15 hsz dne hx hn))
theorem pmk_sup {X : Cx} {k : Nat} {x f : Str} {C : Addr} {p pos : Pos} {e : Expr} {es : List Expr} {ta : TA} (T : ExCls X.prog X.K C f) (hr : Room (k + 1) X.A) (hg : Gl X x) (hm : X.mg x = some (.ref C)) (ha : PA X (e :: es) ta)
    (hdb : (x == ("__debug__" : Str)) = false) (he : starEach (e :: es) X.env = (false, eval e X.env) :: starEach es X.env) (hpl : (backTo pos (starEach es X.env)).any (·.1) = false) :
    PMk X (.Call (.Name x p) (e :: es) [] pos) (tRai C f ta) := by
  intro pins s σ H Q I h
  have T0 := T
  obtain ⟨⟨nm, q, N, bs, bm, sn, sub, ab, col, dd, k0, k1, k2, k3, k5, hC, hbm⟩, sa, exC, tyC, kC⟩ := T.oe
  obtain ⟨fI, _, _, _, _, _, _, _, _, _, _, _, _, _, _, _, _, _, _, _, _, _, _, _, _, _, iC, tI, _⟩ := T.fn
  refine wpAny_Call_Name_kw (ld_glob I hg hm ?_ hdb)
  refine PySem.W.callWith_K (h₀ := X.base) I.ok.mod.kin kC (thn (ha.run pos pins s σ H _ I h) fun us s1 ⟨vs, H1, I1, r1, y, ev, q1⟩ => ⟨I1.kIn, ?_⟩) he hpl
  subst ev
  obtain ⟨u, rfl, ru⟩ := vals1 r1
  show wpAny _ _ (call (.ref C) [u]) _ _ _
  obtain ⟨hp, g, dr, tk, os⟩ := s1
  have hsz : hp.objs.size ≤ hp.objs.size + 1 := Nat.le_succ _
  generalize ea : hp.objs.size + 1 = a at hsz
  have hn : H1 a = none := I1.hok.fresh hsz
  have kk : ∀ b o, hp.get? b = some o → ((hp.push (PySem.W.kdv_tup [u])).push (PySem.HandSPX.excO C hp.objs.size)).get? b = some o := fun b o z => Heap.get?_push_of_some _ (Heap.get?_push_of_some _ z)
  have hget : ((hp.push (PySem.W.kdv_tup [u])).push (PySem.HandSPX.excO C hp.objs.size)).get? a = some (PySem.HandSPX.excO C hp.objs.size) := by subst ea; heap_get
  have I2 : Inv X pins σ (upd H1 a (exo a C none)) ⟨(hp.push (PySem.W.kdv_tup [u])).push (PySem.HandSPX.excO C hp.objs.size), g, dr, tk, os⟩ := I1.laid (t' := tk) (a := a) (o := exo a C none) kk hsz (exo_ok hget)
  have hKa : X.K.lookup a = none := by
    cases z : X.K.lookup a with
    | none => rfl
    | some o => exact absurd (Heap.lt_size (I1.kIn _ _ z)) (Nat.not_lt_of_le hsz)
  have call := PySem.HandSPX.call_own (rest := [u]) (A := X.A) (R := fun r s' => match r with | .ok (.ret v) => MkP X pins σ Q v s' | _ => False) (g := g) (d := dr) (t := tk) (os := os) PySem.F.excBase_ValueError (fun Y => PySem.HandSPX.refsVE_contains Y bm hbm) (I1.kIn _ _ hC) (PySem.W.looks_findIn I1.kIn iC) (fun self => PySem.W.bind_fn I1.kIn self tI) (show 1 ≤ sizeLine by decide)
    (sup_init (e := hp.objs.size + 1) (t0 := hp.objs.size) (f := f) (u := u) T iC (I2.env0.make C [u] []) (hr.make C [u] []).depth (by rw [ea]; exact hget) (by rw [ea]; exact hKa) fun h' tk' dx t1 kd dn dne hx hns => ?_)
  · refine wpAny_call (codeAny_mono call fun r s' z => ?_)
    split at z
    · exact z
    · exact z.elim
  rw [ea] at kd dne hx
  refine ⟨rfl, ?_⟩
  have hnd : H1 dx = none := I2.hok.fresh dn |> fun z => by rwa [upd_ne dne] at z
  have nd : ∀ {b : Addr} {o : Obj}, ((hp.push (PySem.W.kdv_tup [u])).push (PySem.HandSPX.excO C hp.objs.size)).get? b = some o → b ≠ dx := fun {b o} z => Nat.ne_of_lt (Nat.lt_of_lt_of_le (Heap.lt_size z) dn)
  have ea2 : upd H1 a (exo a C none) a = some (exo a C none) := upd_same
  have hnd2 : upd H1 a (exo a C none) dx = none := by rw [upd_ne dne]; exact hnd
  have na : ∀ {b : Addr}, upd H1 a (exo a C none) b = none → b ≠ a := fun {b} n z => by rw [z, upd_same] at n; cases n
  have un : Un (frs X.stack) [] (upd H1 a (exo a C none)) (upd (upd (upd H1 a (exo a C none)) dx (exd dx [(f, y)])) a (exo a C (some dx))) ((hp.push (PySem.W.kdv_tup [u])).push (PySem.HandSPX.excO C hp.objs.size)) h' := {
    keep := fun b o z n _ _ => kd b o (na n) z
    slot := fun b o z n _ _ => ⟨o.slots, kd b o (na n) z⟩
    free := fun b o z n _ => by rw [upd_ne (na n), upd_ne (nd z)]; exact n
    there := fun b o z _ => (Decidable.em (b = a)).elim (fun hb => ⟨_, hb ▸ hx⟩) fun hb => ⟨o, kd b o hb z⟩
    tups := fun b xs z => by rw [upd_ne (at_ne ea2 z exo_tup), upd_ne (ne_of_none z hnd2)]; exact z
    frzs := fun b o v z => by rw [upd_ne (at_ne ea2 z exo_frz), upd_ne (ne_of_none z hnd2)]; exact z
    tbls := fun b ps z => ⟨#[], by rw [upd_ne (at_ne ea2 z exo_tbl), upd_ne (ne_of_none z hnd2), z]; simp⟩ }
  have hok2 : HOk X.prog X.w (upd (upd (upd H1 a (exo a C none)) dx (exd dx [(f, y)])) a (exo a C (some dx))) h' := fun b o z => by
    by_cases hb : b = a
    · subst hb
      rw [upd_same] at z
      cases z
      exact exo_ok hx
    by_cases hd : b = dx
    · subst hd
      rw [upd_ne hb, upd_same] at z
      cases z
      exact exd_ok hns (relO_put (fs := []) ru fun g => True.intro)
    rw [upd_ne hb, upd_ne hd] at z
    refine (I2.hok b o z).stay (fun c v hc y2 => kd c v ?_ y2) (fun c hc => ?_) fun c xs hc => ?_
    · rcases hc with hc | hc
      · rw [hc]; exact hb
      · exact at_ne ea2 hc exo_own
    · rw [upd_ne (at_ne ea2 hc exo_own), upd_ne (ne_of_none hc hnd2)]; exact hc
    · rw [upd_ne (at_ne ea2 hc exo_tup), upd_ne (ne_of_none hc hnd2)]; exact hc
  have hfin : upd (del (upd (upd (upd H1 a (exo a C none)) dx (exd dx [(f, y)])) a (exo a C (some dx))) a) dx (.xd [(f, y)]) = upd H1 dx (.xd [(f, y)]) := by
    funext b
    by_cases hd : b = dx
    · subst hd; rw [upd_same, upd_same]
    rw [upd_ne hd, upd_ne hd]
    by_cases hb : b = a
    · subst hb; rw [del_same]; exact hn.symm
    rw [del_ne hb, upd_ne hb, upd_ne hd, upd_ne hb]
  show MkP X pins σ Q (.ref (hp.objs.size + 1)) _
  rw [ea]
  exact mk_end (raises_own exC tyC) I1 hsz kk un hok2 rfl I1.bare upd_same (by rw [upd_ne dne, upd_same]) hnd (by rw [hfin]; exact q1 dx hnd)
/-- isinstance(e, c), e the exception with a dict of its own that the suite holds -/
theorem call_isED {X : Cx} {a D dd : Addr} {oe : Obj} {pn : List (Addr × Obj)} (C : ExcC X.K D) (hz : Zc (.ref D) (some dd) oe) (hf : ∃ vs, oe.data = .fields vs) :
    CallR (X.suite a ((a, oe) :: pn)) (.builtin "isinstance") fun xs H Q => ∃ (c : V) (cv : Value) (fs : List (Str × V)) (b : Bool), xs = [.ref a, c] ∧ (∀ u, RelV c u → u = cv) ∧ H dd = some (.xd fs) ∧ PySem.W.kitOne X.K (.ref D) cv = some b ∧ Q (.bl b) H := by
  intro pins s σ H xs us Q I r h
  obtain ⟨c, cv, fs, b, rfl, hcv, hdd, e, q⟩ := h
  cases r with
  | cons rx rr =>
    cases rr with
    | cons rt rr =>
      cases rr
      cases rx
      have ec := hcv _ rt
      subst ec
      obtain ⟨hget, _⟩ := I.pin (a, oe) (List.mem_append.mpr (.inl List.mem_cons_self))
      obtain ⟨vs, hv⟩ := hf
      have hx : ObjOk X.prog X.w H s.heap dd (.xd fs) := I.hok dd _ hdd
      obtain ⟨mA, hns, _⟩ := hx
      obtain ⟨od, ho, _⟩ := lookIn_ns hns
      have J : PySem.W.InstAt s.heap a oe D (some od) := ⟨hget, hz.1, by unfold PySem.W.notCls; rw [hv] <;> rfl, by rw [hz.2]; exact ho⟩
      have hcl : (PySem.W.clsIn X.K D).isSome = true := by
        have := C.hd
        unfold PySem.W.hasDictIn at this
        cases z : PySem.W.clsIn X.K D with
        | none => rw [z] at this; cases this
        | some cd => rfl
      exact PySem.W.kia_one (PySem.W.kitx_exc hcl C.hg C.hk C.hs C.ha C.hn C.ht C.hm) I.kIn J e (fun z => nomatch z) fun tk => ⟨.bl b, H, I.kept (t' := tk) fun _ _ z => z, rfl, q⟩
end DI

/-! DI, part 6: the reading of a code that is looked at is right. -/
namespace DI
open L2
open PySem.Spec
open PyProof.Rows hiding St
open PySem

def btNames : List Str := ["len", "int", "str", "abs", "max", "min", "sum", "list", "tuple", "sorted", "all", "any", "isinstance", "repr", "bool", "dict", "range", "enumerate", "zip", "reversed", "super", "ValueError"]
structure Facts (P : Program) (w : World) (mg : Str → Option Value) (base : Heap) (m : Nat) (v : Ev) (fa : Nat → Addr) (t : CK) : Prop where
  fn : ∀ f, (f ∈ t.calls ∨ (∃ C nm, (C, f, nm) ∈ t.mths) ∨ ∃ C, (C, f) ∈ t.mks) → ∃ fd ps, FnG P w v.K mg base m (fa f) fd ps (v.sp f) ∧ Bnd v.K fd ps (t.kw f)
  calls : ∀ f ∈ t.calls, mg (t.fn f) = some (.ref (fa f)) ∧ PySem.W.keepIn v.K (.ref (fa f)) = true
  mths : ∀ q ∈ t.mths, Cls v.K (v.cls q.1) ∧ Meth v.K (v.cls q.1) q.2.2 (fa q.2.1)
  mks : ∀ q ∈ t.mks, mg (t.cn q.1) = some (.ref (v.cls q.1)) ∧ Mk v.K (v.cls q.1) (fa q.2)
  flds : ∀ q ∈ t.flds, Cls v.K (v.cls q.1) ∧ NoAttr v.K (v.cls q.1) q.2
  gls : ∀ i ∈ t.gls, ∃ u, mg (t.gn i) = some u ∧ RelV (v.gv i) u
  bts : ∀ x ∈ btNames, mg x = none
  exs : ∀ q ∈ t.exs, mg (t.cn q.1) = some (.ref (v.cls q.1)) ∧ ExCls P v.K (v.cls q.1) q.2 ∧ ExcC v.K (v.cls q.1)
  bss : ∀ C ∈ t.bases, mg (t.cn C) = some (.ref (v.cls C))
  vxs : v.exs = t.exs
  sysm : SysM base
theorem Facts.sc {P : Program} {w : World} {mg : Str → Option Value} {base : Heap} {m : Nat} {v : Ev} {fa : Nat → Addr} {t : CK} (F : Facts P w mg base m v fa t) (sc : Scope) (b : Bool) (l : List (Str × NameKind)) :
    Facts P w mg base m v fa { t with sc := sc, blk := b, bn := l } := ⟨F.fn, F.calls, F.mths, F.mks, F.flds, F.gls, F.bts, F.exs, F.bss, F.vxs, F.sysm⟩
theorem Facts.hot {P : Program} {w : World} {mg : Str → Option Value} {base : Heap} {m : Nat} {v : Ev} {fa : Nat → Addr} {t : CK} (F : Facts P w mg base m v fa t) (z : Option (Addr × Value × Option Addr)) :
    Facts P w mg base m { v with ex := z } fa { t with hot := true } := ⟨F.fn, F.calls, F.mths, F.mks, F.flds, F.gls, F.bts, F.exs, F.bss, F.vxs, F.sysm⟩

structure Ok (v : Ev) (fa : Nat → Addr) (m : Nat) (t : CK) (X : Cx) (W : WX) : Prop where
  F : Facts X.prog X.w X.mg X.base m v fa t
  K : v.K = X.K
  N : X.N = t.N
  sc : X.env.scope = t.sc
  nd : t.N.Nodup
  calm : t.hot = false → X.calm = true
  room : t.hot = false → RoomG (m + 1) X.A
  grd : X.A.guards = some []
  u65 : X.A.units + 65 < cLine
  tk : t.hot = false → Takes X W
  pas : PassesOwn (model X.prog X.w) X.A X.env X.xe
  fnc : t.blk = false → ∀ x, X.fn x = true
  own : t.blk = true → ∀ x, t.bn.lookup x = some .cell → X.fn x = true
  top : t.blk = false → X.stack = X.env :: X.outer ∧ X.env.frame = some X.env.locals
  suit : t.hot = true → ∃ (X0 : Cx) (a : Addr) (oe : Obj) (pn : List (Addr × Obj)) (cls : Value) (d : Option Addr), X = X0.suite a ((a, oe) :: pn) ∧ v.ex = some (a, cls, d) ∧ Zc cls d oe ∧ ∃ vs, oe.data = .fields vs

theorem PE.imp {X : Cx} {e : Expr} {t t' : TE} (h : PE X e t) (i : ∀ σ H Q, t' σ H Q → t σ H Q) : PE X e t' := ⟨fun pins s σ H Q I q => h.run pins s σ H Q I (i σ H Q q)⟩
theorem PT.imp {X : Cx} {e : Expr} {t t' : TT} (h : PT X e t) (i : ∀ σ H Q, t' σ H Q → t σ H Q) : PT X e t' := ⟨fun pins s σ H Q I q => h.run pins s σ H Q I (i σ H Q q)⟩
theorem PS.imp {X : Cx} {e : Stmt} {t t' : TS} (h : PS X e t) (i : ∀ D σ H, t' D σ H → t D σ H) : PS X e t' := ⟨fun pins s σ H D I q => h.run pins s σ H D I (i D σ H q)⟩
theorem tV_imp {i : Nat} {σ : L2.St} {H : Hp} {Q : VK} (h : tV i σ H Q) : tVar i σ H Q := by
  unfold tV at h
  split at h
  · exact ⟨_, by assumption, h⟩
  · exact h.elim

section
variable {v : Ev} {fa : Nat → Addr} {m : Nat} {t : CK} {X : Cx} {W : WX}
theorem Ok.gl (O : Ok v fa m t X W) {x : Str} (h : glB t.sc x = true) : Gl X x := by
  show X.env.scope.names.lookup x = some .globalImplicit
  rw [O.sc]
  exact of_decide_eq_true h
theorem Ok.bt (O : Ok v fa m t X W) {x : Str} (h : x ∈ btNames) : X.mg x = none := O.F.bts x h
theorem Ok.blk (O : Ok v fa m t X W) (hh : t.hot = false) {scope : Scope} {s : Shared} {H : Hp} {C : Addr} {cl : List (Str × Addr)} {fp : List Addr} :
    Ok v fa m { t with sc := relS scope t.sc, blk := true, bn := scope.names } (X.blk s H scope (compEnvC scope cl C X.env) fp) (fun _ _ _ _ => False) where
  F := O.F.sc _ _ _
  own := fun _ x h => by show (scope.names.lookup x == some .cell) = true; rw [h]; rfl
  K := O.K
  N := O.N
  sc := by
    have h := O.sc
    show relabel scope X.env = relS scope t.sc
    rw [← h]
    rfl
  nd := O.nd
  calm := O.calm
  room := O.room
  grd := O.grd
  u65 := O.u65
  tk := fun _ => takes0
  pas := PassesOwn.never
  fnc := fun h => by cases h
  top := fun h => by cases h
  suit := fun h => by rw [show t.hot = true from h] at hh; cases hh
theorem Ok.clsIn (O : Ok v fa m t X W) {C : Nat} (h : ((t.exs.any fun q => decide (q.1 = C)) || t.bases.contains C) = true) : X.mg (t.cn C) = some (.ref (v.cls C)) := by
  rw [Bool.or_eq_true] at h
  rcases h with h | h
  · rw [List.any_eq_true] at h
    obtain ⟨q, hq, e⟩ := h
    have e := of_decide_eq_true e
    rw [← e]
    exact (O.F.exs q hq).1
  · exact O.F.bss C (by simpa using h)
/-- the body of a try -/
theorem Ok.tr (O : Ok v fa m t X W) {W' : WX} {pn : List (Addr × Obj)} {xe : Value → Shared → Prop} (hh : t.hot = false) (tk : Takes (X.tr pn xe) W') (pa : PassesOwn (model X.prog X.w) X.A X.env xe) : Ok v fa m t (X.tr pn xe) W' where
  F := O.F
  K := O.K
  N := O.N
  sc := O.sc
  nd := O.nd
  calm := O.calm
  room := O.room
  grd := O.grd
  u65 := O.u65
  tk := fun _ => tk
  pas := pa
  fnc := O.fnc
  own := O.own
  top := O.top
  suit := fun h => by rw [h] at hh; cases hh
/-- an except suite -/
theorem Ok.suite (O : Ok v fa m t X W) {a : Addr} {oe : Obj} {cls : Value} {d : Option Addr} {pn : List (Addr × Obj)} (hz : Zc cls d oe) (hf : ∃ vs, oe.data = .fields vs) :
    Ok { v with ex := some (a, cls, d) } fa m { t with hot := true } (X.suite a ((a, oe) :: pn)) (fun _ _ _ _ => False) where
  F := O.F.hot _
  K := O.K
  N := O.N
  sc := O.sc
  nd := O.nd
  calm := fun h => by cases h
  room := fun h => by cases h
  grd := O.grd
  u65 := O.u65
  tk := fun h => by cases h
  pas := PassesOwn.never
  fnc := O.fnc
  own := O.own
  top := O.top
  suit := fun _ => ⟨X, a, oe, pn, cls, d, rfl, rfl, hz, hf⟩
theorem Ok.vis (O : Ok v fa m t X W) {x : Str} (h : visB t.sc x = true) : Vis X.env.scope x := by
  unfold visB at h
  simp only [Bool.or_eq_true, decide_eq_true_eq] at h
  unfold Vis
  rw [O.sc]
  rcases h with (h | h) | h
  · exact .inl h
  · exact .inr (.inl h)
  · exact .inr (.inr h)
theorem Ok.loc (O : Ok v fa m t X W) {x : Str} (h : locB t.sc x = true) : L2.Loc X.env.scope x := by
  unfold locB at h
  simp only [Bool.or_eq_true, decide_eq_true_eq] at h
  unfold L2.Loc
  rw [O.sc]
  exact h
theorem dbg1 {x : Str} (h : dbgB x = true) : (x == ("__debug__" : Str)) = false := by
  unfold dbgB at h
  simp only [Bool.and_eq_true, Bool.not_eq_true'] at h
  exact h.1
theorem dbg2 {x : Str} (h : dbgB x = true) : (x == ("__classdict__" : Str)) = false := by
  unfold dbgB at h
  simp only [Bool.and_eq_true, Bool.not_eq_true'] at h
  exact h.2
theorem bf_in (b : Bf) : b.name ∈ btNames := by cases b <;> decide +kernel
theorem ty_in : ∀ n ∈ tyNames, Str.ofString n ∈ btNames ∧ bootBuiltins (Str.ofString n) = some (.type n) ∧ Str.ofString n ≠ "__name__" ∧ (Str.ofString n == ("__debug__" : Str)) = false := by
  decide +kernel
theorem PW.or_one {a : Expr} {pos : Pos} {tA : TT} (h : PT X a tA) : PW X (.BoolOp .Or [a] pos) tA := pw_or1 h
theorem pe_lit {x : V} {k : Const} {j : Nat} {p : Pos} (h : litB x k = true) : PE X (.Constant k j p) (tC x) := by
  cases k <;> first
    | (cases h; done)
    | (have e := of_decide_eq_true h; subst e; first | exact pe_int | exact pe_bl | exact pe_str | exact pe_non)
/-- what is wanted of a truth value, as what is wanted of a value -/
def onBl (Q : Bool → Hp → Prop) : VK := fun z H => match z with
  | .bl b => Q b H
  | _ => False
theorem onBl_of {Q : Bool → Hp → Prop} {z : V} {H : Hp} (h : onBl Q z H) : ∃ b, z = .bl b ∧ Q b H := by
  unfold onBl at h
  split at h
  · exact ⟨_, rfl, h⟩
  · exact h.elim
theorem pt_cm {op : CmpOp} {a b : Expr} {pos : Pos} {ta tb : TE} {r : V → V → Hp → (Bool → Prop) → Prop} (hr : CmR X op r) (ha : PE X a ta) (hb : PE X b tb) (hm : nSet b = true) : PT X (.Compare a [op] [b] pos) (tCp r ta tb) := by
  refine ⟨fun pins s σ H Q I h => ?_⟩
  refine wpAny_isTrue_Compare1 (thn (ha.run pins s σ H _ I h) fun w1 s1 ⟨x, H1, I1, r1, q1⟩ => thn (hb.run pins s1 σ H1 _ I1 q1) fun w2 s2 ⟨y, H2, I2, r2, q2⟩ => ?_) (no_behind hm)
  refine thn (hr pins s2 σ H2 x y w1 w2 (onBl Q) I2 r1 r2 q2) fun c s3 ⟨z, H3, I3, r3, q3⟩ => ?_
  obtain ⟨b, e, q4⟩ := onBl_of q3
  subst e
  cases r3
  exact wpAny_truthy_bool ⟨H3, I3, q4⟩
theorem pe_ch {o1 o2 : CmpOp} {a b c : Expr} {pos : Pos} {ta tb tc : TE} {r r' : V → V → Hp → (Bool → Prop) → Prop} (hr : CmR X o1 r) (hr' : CmR X o2 r') (ha : PE X a ta) (hb : PE X b tb) (hc : PE X c tc) (hm : nSet c = true) :
    PE X (.Compare a [o1, o2] [b, c] pos) fun σ H Q => tCh r r' ta tb tc σ H fun k H1 => Q (.bl k) H1 := by
  refine ⟨fun pins s σ H Q I h => Compare_chain (thn (ha.run pins s σ H _ I h) fun w1 s1 ⟨x, H1, I1, r1, q1⟩ => chain_link ?_) (by show behindInMarks o2 c = false; exact no_behind hm)⟩
  refine thn (hb.run pins s1 σ H1 _ I1 q1) fun w2 s2 ⟨y, H2, I2, r2, q2⟩ => ?_
  refine thn (hr pins s2 σ H2 x y w1 w2 (onBl fun k H3 => if k = true then tc σ H3 fun z H4 => r' y z H4 fun k' => Q (.bl k') H4 else Q (.bl false) H3) I2 r1 r2 ?_) fun d s3 ⟨z, H3, I3, r3, q3⟩ => ?_
  · exact q2
  obtain ⟨k, e, q4⟩ := onBl_of q3
  subst e
  cases r3
  refine wpAny_truthy_bool ?_
  cases k with
  | false => exact ite_ff ⟨.bl false, H3, I3, rfl, q4⟩
  | true => exact ite_tt (chain_last (thn (hc.run pins s3 σ H3 _ I3 q4) fun w3 s4 ⟨z', H4, I4, r4, q5⟩ => hr' pins s4 σ H4 y z' w2 w3 Q I4 r2 r4 q5))
theorem pt_ch {o1 o2 : CmpOp} {a b c : Expr} {pos : Pos} {ta tb tc : TE} {r r' : V → V → Hp → (Bool → Prop) → Prop} (hr : CmR X o1 r) (hr' : CmR X o2 r') (ha : PE X a ta) (hb : PE X b tb) (hc : PE X c tc) (hm : nSet c = true) :
    PT X (.Compare a [o1, o2] [b, c] pos) (tCh r r' ta tb tc) := by
  refine ⟨fun pins s σ H Q I h => isTrue_chain (thn (ha.run pins s σ H _ I h) fun w1 s1 ⟨x, H1, I1, r1, q1⟩ => test_link ?_) (by show behindInMarks o2 c = false; exact no_behind hm)⟩
  refine thn (hb.run pins s1 σ H1 _ I1 q1) fun w2 s2 ⟨y, H2, I2, r2, q2⟩ => ?_
  refine thn (hr pins s2 σ H2 x y w1 w2 (onBl fun k H3 => if k = true then tc σ H3 fun z H4 => r' y z H4 fun k' => Q k' H4 else Q false H3) I2 r1 r2 ?_) fun d s3 ⟨z, H3, I3, r3, q3⟩ => ?_
  · exact q2
  obtain ⟨k, e, q4⟩ := onBl_of q3
  subst e
  cases r3
  refine wpAny_truthy_bool ?_
  cases k with
  | false => exact ite_ff ⟨H3, I3, q4⟩
  | true =>
    refine ite_tt (test_last (thn (hc.run pins s3 σ H3 _ I3 q4) fun w3 s4 ⟨z', H4, I4, r4, q5⟩ => thn (hr' pins s4 σ H4 y z' w2 w3 (onBl Q) I4 r2 r4 q5) fun d' s5 ⟨z2, H5, I5, r5, q6⟩ => ?_))
    obtain ⟨k', e', q7⟩ := onBl_of q6
    subst e'
    cases r5
    exact wpAny_truthy_bool ⟨H5, I5, q7⟩
theorem pe_ch3 {o1 o2 o3 : CmpOp} {a b c d : Expr} {pos : Pos} {ta tb tc td : TE} {r r' r'' : V → V → Hp → (Bool → Prop) → Prop} (hr : CmR X o1 r) (hr' : CmR X o2 r') (hr2 : CmR X o3 r'') (ha : PE X a ta) (hb : PE X b tb) (hc : PE X c tc) (hd : PE X d td) (hm : nSet d = true) :
    PE X (.Compare a [o1, o2, o3] [b, c, d] pos) fun σ H Q => tCh3 r r' r'' ta tb tc td σ H fun k H1 => Q (.bl k) H1 := by
  refine ⟨fun pins s σ H Q I h => Compare_chain (thn (ha.run pins s σ H _ I h) fun w1 s1 ⟨x, H1, I1, r1, q1⟩ => chain_link ?_) (by show behindInMarks o3 d = false; exact no_behind hm)⟩
  refine thn (hb.run pins s1 σ H1 _ I1 q1) fun w2 s2 ⟨y, H2, I2, r2, q2⟩ => ?_
  refine thn (hr pins s2 σ H2 x y w1 w2 (onBl fun k H3 => if k = true then tc σ H3 fun z H4 => r' y z H4 fun k' => if k' = true then td σ H4 fun u H5 => r'' z u H5 fun k2 => Q (.bl k2) H5 else Q (.bl false) H4 else Q (.bl false) H3) I2 r1 r2 q2) fun e s3 ⟨z0, H3, I3, r3, q3⟩ => ?_
  obtain ⟨k, e1, q4⟩ := onBl_of q3
  subst e1
  cases r3
  refine wpAny_truthy_bool ?_
  cases k with
  | false => exact ite_ff ⟨.bl false, H3, I3, rfl, q4⟩
  | true =>
    refine ite_tt (chain_link (thn (hc.run pins s3 σ H3 _ I3 q4) fun w3 s4 ⟨z, H4, I4, r4, q5⟩ => ?_))
    refine thn (hr' pins s4 σ H4 y z w2 w3 (onBl fun k' H5 => if k' = true then td σ H5 fun u H6 => r'' z u H6 fun k2 => Q (.bl k2) H6 else Q (.bl false) H5) I4 r2 r4 q5) fun e s5 ⟨z2, H5, I5, r5, q6⟩ => ?_
    obtain ⟨k', e2, q7⟩ := onBl_of q6
    subst e2
    cases r5
    refine wpAny_truthy_bool ?_
    cases k' with
    | false => exact ite_ff ⟨.bl false, H5, I5, rfl, q7⟩
    | true => exact ite_tt (chain_last (thn (hd.run pins s5 σ H5 _ I5 q7) fun w4 s6 ⟨u, H6, I6, r6, q8⟩ => hr2 pins s6 σ H6 z u w3 w4 Q I6 r4 r6 q8))
theorem pt_ch3 {o1 o2 o3 : CmpOp} {a b c d : Expr} {pos : Pos} {ta tb tc td : TE} {r r' r'' : V → V → Hp → (Bool → Prop) → Prop} (hr : CmR X o1 r) (hr' : CmR X o2 r') (hr2 : CmR X o3 r'') (ha : PE X a ta) (hb : PE X b tb) (hc : PE X c tc) (hd : PE X d td) (hm : nSet d = true) :
    PT X (.Compare a [o1, o2, o3] [b, c, d] pos) (tCh3 r r' r'' ta tb tc td) := by
  refine ⟨fun pins s σ H Q I h => isTrue_chain (thn (ha.run pins s σ H _ I h) fun w1 s1 ⟨x, H1, I1, r1, q1⟩ => test_link ?_) (by show behindInMarks o3 d = false; exact no_behind hm)⟩
  refine thn (hb.run pins s1 σ H1 _ I1 q1) fun w2 s2 ⟨y, H2, I2, r2, q2⟩ => ?_
  refine thn (hr pins s2 σ H2 x y w1 w2 (onBl fun k H3 => if k = true then tc σ H3 fun z H4 => r' y z H4 fun k' => if k' = true then td σ H4 fun u H5 => r'' z u H5 fun k2 => Q k2 H5 else Q false H4 else Q false H3) I2 r1 r2 q2) fun e s3 ⟨z0, H3, I3, r3, q3⟩ => ?_
  obtain ⟨k, e1, q4⟩ := onBl_of q3
  subst e1
  cases r3
  refine wpAny_truthy_bool ?_
  cases k with
  | false => exact ite_ff ⟨H3, I3, q4⟩
  | true =>
    refine ite_tt (test_link (thn (hc.run pins s3 σ H3 _ I3 q4) fun w3 s4 ⟨z, H4, I4, r4, q5⟩ => ?_))
    refine thn (hr' pins s4 σ H4 y z w2 w3 (onBl fun k' H5 => if k' = true then td σ H5 fun u H6 => r'' z u H6 fun k2 => Q k2 H6 else Q false H5) I4 r2 r4 q5) fun e s5 ⟨z2, H5, I5, r5, q6⟩ => ?_
    obtain ⟨k', e2, q7⟩ := onBl_of q6
    subst e2
    cases r5
    refine wpAny_truthy_bool ?_
    cases k' with
    | false => exact ite_ff ⟨H5, I5, q7⟩
    | true =>
      refine ite_tt (test_last (thn (hd.run pins s5 σ H5 _ I5 q7) fun w4 s6 ⟨u, H6, I6, r6, q8⟩ => thn (hr2 pins s6 σ H6 z u w3 w4 (onBl Q) I6 r4 r6 q8) fun e s7 ⟨z3, H7, I7, r7, q9⟩ => ?_))
      obtain ⟨k2, e3, q10⟩ := onBl_of q9
      subst e3
      cases r7
      exact wpAny_truthy_bool ⟨H7, I7, q10⟩
/-- and, or as values -/
theorem tIfV_imp {ta : TE} {f : Bool → L2.St → Hp → VK → Prop} {σ : L2.St} {H : Hp} {Q : VK} {pins : List (Addr × Obj)} {s : Shared} {e : Expr} (he : PE X e ta) (I : Inv X pins σ H s) (h : tIfV ta f σ H Q) :
    wpAny (model X.prog X.w) X.A (eval e X.env) (fun u s' => ∃ k H', Inv X pins σ H' s' ∧ u = Value.bool k ∧ f k σ H' Q) X.xe s := by
  refine thn (he.run pins s σ H _ I h) fun u s1 ⟨x, H1, I1, r1, q1⟩ => ?_
  dsimp only at q1
  split at q1
  · exact ⟨_, H1, I1, r1, q1⟩
  · exact q1.elim
theorem pe_andA {a b : Expr} {rest : List Expr} {pos : Pos} {ta tb : TE} (ha : PE X a ta) (hb : PE X (.BoolOp .And (b :: rest) pos) tb) :
    PE X (.BoolOp .And (a :: b :: rest) pos) (tIfV ta fun k σ H Q => if k = true then tb σ H Q else Q (.bl false) H) := by
  refine ⟨fun pins s σ H Q I h => BoolOp_and (thn (tIfV_imp ha I h) fun u s1 ⟨k, H1, I1, e, q1⟩ => ?_)⟩
  subst e
  refine wpAny_truthy_bool ?_
  cases k with
  | true => exact hb.run pins s1 σ H1 Q I1 q1
  | false => exact ⟨.bl false, H1, I1, rfl, q1⟩
theorem pe_orA {a b : Expr} {rest : List Expr} {pos : Pos} {ta tb : TE} (ha : PE X a ta) (hb : PE X (.BoolOp .Or (b :: rest) pos) tb) :
    PE X (.BoolOp .Or (a :: b :: rest) pos) (tIfV ta fun k σ H Q => if k = true then Q (.bl true) H else tb σ H Q) := by
  refine ⟨fun pins s σ H Q I h => BoolOp_or (thn (tIfV_imp ha I h) fun u s1 ⟨k, H1, I1, e, q1⟩ => ?_)⟩
  subst e
  refine wpAny_truthy_bool ?_
  cases k with
  | false => exact hb.run pins s1 σ H1 Q I1 q1
  | true => exact ⟨.bl true, H1, I1, rfl, q1⟩
theorem pe_notA {a : Expr} {pos : Pos} {ta : TE} (ha : PE X a ta) : PE X (.UnaryOp .Not a pos) (tIfV ta fun k _ H Q => Q (.bl (!k)) H) := by
  refine ⟨fun pins s σ H Q I h => UnaryOp_ (thn (tIfV_imp ha I h) fun u s1 ⟨k, H1, I1, e, q1⟩ => ?_)⟩
  subst e
  exact not_of (wpAny_truthy_bool ⟨.bl (!k), H1, I1, rfl, q1⟩)
theorem PI.or {tg it : Expr} {w1 w2 : TI} (h1 : PI X tg it w1) (h2 : PI X tg it w2) : PI X tg it fun σ H R => w1 σ H R ∨ w2 σ H R :=
  ⟨fun pins s σ H R I h => h.elim (fun h => h1.run pins s σ H R I h) fun h => h2.run pins s σ H R I h⟩
theorem gs_len : ∀ {c : Tgs} {t : CK} {l : List Expr} {env : Env}, c.chk t l = true → (assignEach l env).length = c.len ∧ (assignEach l env).findIdx? (·.1) = none
  | .nil, _, [], _, _ => ⟨rfl, rfl⟩
  | .nil, _, _ :: _, _, h => by cases h
  | .cons a r, _, [], _, h => by cases h
  | .cons a r, t, e :: es, env, h => by
    simp only [Tgs.chk, Bool.and_eq_true] at h
    obtain ⟨h1, h2⟩ := gs_len (env := env) h.2
    rw [assign_cons h.1.1]
    refine ⟨?_, ?_⟩
    · show (assignEach es env).length + 1 = r.len + 1
      rw [h1]
    · rw [List.findIdx?_cons]
      simp [h2]
end
end DI

/-! DI, part 7: soundness of the reading. -/
namespace DI
open L2
open PySem.Spec
open PyProof.Rows hiding St
open PySem

section
variable {v : Ev} {fa : Nat → Addr} {m : Nat}

theorem all_tail {e : Expr} {es : List Expr} (h : (e :: es).all nStar = true) : nStar e = true ∧ es.all nStar = true := by
  rw [List.all_cons, Bool.and_eq_true] at h
  exact h
theorem kw_nil {l : List Str} (h : l.isEmpty = true) : l = [] := by simpa using h
theorem hotF {t : CK} (h : (!t.hot) = true) : t.hot = false := by simpa using h
theorem ok_calls {t : CK} {X : Cx} {W : WX} (O : Ok v fa m t X W) {f : Nat} (h : t.calls.contains f = true) :
    ∃ fd ps, FnG X.prog X.w X.K X.mg X.base m (fa f) fd ps (v.sp f) ∧ Bnd X.K fd ps (t.kw f) ∧ X.mg (t.fn f) = some (.ref (fa f)) ∧ PySem.W.keepIn X.K (.ref (fa f)) = true := by
  have hf : f ∈ t.calls := by simpa using h
  obtain ⟨fd, ps, F, b⟩ := O.F.fn f (.inl hf)
  have c := O.F.calls f hf
  rw [O.K] at F b c
  exact ⟨fd, ps, F, b, c.1, c.2⟩
theorem ok_call {t : CK} {X : Cx} {W : WX} (O : Ok v fa m t X W) {f : Nat} (h : t.cl f = true) :
    ∃ fd ps, FnG X.prog X.w X.K X.mg X.base m (fa f) fd ps (v.sp f) ∧ Binds X.K fd ps [] ∧ X.mg (t.fn f) = some (.ref (fa f)) ∧ PySem.W.keepIn X.K (.ref (fa f)) = true := by
  unfold CK.cl at h
  rw [Bool.and_eq_true] at h
  obtain ⟨fd, ps, F, b, c⟩ := ok_calls O h.1
  rw [kw_nil h.2] at b
  exact ⟨fd, ps, F, b.plain, c⟩
theorem ok_meth {t : CK} {X : Cx} {W : WX} (O : Ok v fa m t X W) {C f : Nat} {nm : Str} (h : t.mt C f nm = true) :
    ∃ fd ps, FnG X.prog X.w X.K X.mg X.base m (fa f) fd ps (v.sp f) ∧ Binds X.K fd ps [] ∧ Cls X.K (v.cls C) ∧ Meth X.K (v.cls C) nm (fa f) := by
  unfold CK.mt at h
  rw [Bool.and_eq_true] at h
  have hf : (C, f, nm) ∈ t.mths := by simpa using h.1
  obtain ⟨fd, ps, F, b⟩ := O.F.fn f (.inr (.inl ⟨C, nm, hf⟩))
  have c := O.F.mths _ hf
  rw [O.K] at F b c
  rw [kw_nil h.2] at b
  exact ⟨fd, ps, F, b.plain, c.1, c.2⟩
theorem ok_mk {t : CK} {X : Cx} {W : WX} (O : Ok v fa m t X W) {C f : Nat} (h : t.mkq C f = true) :
    ∃ fd ps, FnG X.prog X.w X.K X.mg X.base m (fa f) fd ps (v.sp f) ∧ Binds X.K fd ps [] ∧ X.mg (t.cn C) = some (.ref (v.cls C)) ∧ Mk X.K (v.cls C) (fa f) := by
  unfold CK.mkq at h
  rw [Bool.and_eq_true] at h
  have hf : (C, f) ∈ t.mks := by simpa using h.1
  obtain ⟨fd, ps, F, b⟩ := O.F.fn f (.inr (.inr ⟨C, hf⟩))
  have c := O.F.mks _ hf
  rw [O.K] at F b c
  rw [kw_nil h.2] at b
  exact ⟨fd, ps, F, b.plain, c.1, c.2⟩
theorem ok_fld {t : CK} {X : Cx} {W : WX} (O : Ok v fa m t X W) {C : Nat} {f : Str} (h : t.flds.contains (C, f) = true) : Cls X.K (v.cls C) ∧ NoAttr X.K (v.cls C) f := by
  have hf : (C, f) ∈ t.flds := by simpa using h
  have c := O.F.flds _ hf
  rw [O.K] at c
  exact c

theorem kw_names {kws : List Keyword} {ks : List Str} {pos : Pos} {env : Env} (h : kws.map (·.arg) = ks.map some) :
    (backToKw pos (keywordEach kws env)).all (·.1.isSome) = true ∧ (backToKw pos (keywordEach kws env)).filterMap (·.1) = ks ∧ (backToKw pos (keywordEach kws env)).any (·.1.isNone) = false := by
  induction kws generalizing ks with
  | nil =>
    cases ks with
    | nil => exact ⟨rfl, rfl, rfl⟩
    | cons a r => cases h
  | cons k r ih =>
    obtain ⟨nm, val, kp⟩ := k
    cases ks with
    | nil => cases h
    | cons a r' =>
      rw [List.map_cons, List.map_cons] at h
      injection h with h1 h2
      have h1 : nm = some a := h1
      subst h1
      obtain ⟨i1, i2, i3⟩ := ih h2
      refine ⟨?_, ?_, ?_⟩
      · show (true && (backToKw pos (keywordEach r env)).all (·.1.isSome)) = true
        rw [i1]; rfl
      · show a :: (backToKw pos (keywordEach r env)).filterMap (·.1) = _
        rw [i2]
      · show (false || (backToKw pos (keywordEach r env)).any (·.1.isNone)) = false
        rw [i3]; rfl
theorem Xps.len_chk : ∀ {c : Xps} {t : CK} {l : List Expr}, c.chk t l = true → l.length = c.len
  | .nil, _, [], _ => rfl
  | .nil, _, _ :: _, h => by cases h
  | .cons a r, t, [], h => by cases h
  | .cons a r, t, e :: es, h => by
    simp only [Xps.chk, Bool.and_eq_true] at h
    show es.length + 1 = r.len + 1
    rw [Xps.len_chk h.2]
theorem PT.pwB {X : Cx} {op : BoolOp} {l : List Expr} {pos : Pos} {t : TT} (h : PT X (.BoolOp op l pos) t) : PW X (.BoolOp op l pos) t := ⟨fun w pins s σ H Q I q => h.run pins s σ H Q I q⟩

inductive PEs (X : Cx) : List Expr → List TE → Prop
  | nil : PEs X [] []
  | cons {e : Expr} {es : List Expr} {t : TE} {ts : List TE} (h : PE X e t) (r : PEs X es ts) : PEs X (e :: es) (t :: ts)
theorem pps_of {X : Cx} {pos : Pos} : ∀ {keys : List (Option Expr)} {values : List Expr} {tk tv : List TE}, allSome keys = true → keys.length = values.length → PEs X (somes keys) tk → PEs X values tv → PPs X pos keys values (tk.zip tv)
  | [], [], _, _, _, _, .nil, .nil => pps_nil
  | [], _ :: _, _, _, _, h, _, _ => by cases h
  | _ :: _, [], _, _, _, h, _, _ => by cases h
  | none :: ks, y :: ys, _, _, h, _, _, _ => by cases h
  | some k :: ks, y :: ys, _, _, h, hl, .cons a r, .cons b r' => by
    refine pps_cons a b (pps_of ?_ (by simpa using hl) r r')
    unfold allSome at h ⊢
    simpa using h
set_option maxHeartbeats 2000000 in
mutual
theorem Xp.sound : ∀ (c : Xp) {t : CK} {e : Expr} {X : Cx} {W : WX}, Ok v fa m t X W → c.chk t e = true → PE X e (c.den v W)
  | .v i, t, e, X, W, O, h => by
    simp only [Xp.chk] at h
    split at h
    · simp only [Bool.and_eq_true, decide_eq_true_eq] at h
      exact PE.imp (pe_var (by rw [O.N]; exact h.1.1) (O.vis h.1.2) (dbg1 h.2) (dbg2 h.2)) fun σ H Q => tV_imp
    · cases h
  | .c x, t, e, X, W, O, h => by
    simp only [Xp.chk] at h
    split at h
    · exact pe_lit h
    · cases h
  | .g i, t, e, X, W, O, h => by
    simp only [Xp.chk] at h
    split at h
    · simp only [Bool.and_eq_true, decide_eq_true_eq] at h
      obtain ⟨⟨⟨h1, h2⟩, h3⟩, h4⟩ := h
      obtain ⟨u, hu, ru⟩ := O.F.gls i (by simpa using h2)
      rw [← h1] at hu
      exact pe_glob (O.gl h3) hu ru (dbg1 h4)
    · cases h
  | .ty n, t, e, X, W, O, h => by
    simp only [Xp.chk] at h
    split at h
    · simp only [Bool.and_eq_true, decide_eq_true_eq] at h
      obtain ⟨⟨h1, h2⟩, h3⟩ := h
      subst h1
      obtain ⟨b1, b2, b3, b4⟩ := ty_in n (by simpa using h2)
      exact pe_bltn (O.gl h3) (O.bt b1) b2 rfl b3 b4
    · cases h
  | .bin op a b, t, e, X, W, O, h => by
    simp only [Xp.chk] at h
    split at h
    · simp only [Bool.and_eq_true, decide_eq_true_eq] at h
      obtain ⟨⟨h1, h2⟩, h3⟩ := h
      subst h1
      exact pe_op (opBin O.K _) (Xp.sound a O h2) (Xp.sound b O h3)
    · cases h
  | .neg a, t, e, X, W, O, h => by
    simp only [Xp.chk] at h
    split at h
    · exact pe_un un_neg (Xp.sound a O h)
    · cases h
  | .cmp op a b, t, e, X, W, O, h => by
    simp only [Xp.chk] at h
    split at h
    · simp only [Bool.and_eq_true, decide_eq_true_eq] at h
      obtain ⟨⟨⟨h1, h2⟩, h3⟩, h4⟩ := h
      subst h1
      exact pe_cmpR (cmAll O.K O.u65 _) (Xp.sound a O h3) (Xp.sound b O h4) (no_behind h2)
    · cases h
  | .chn o1 o2 a b c, t, e, X, W, O, h => by
    simp only [Xp.chk] at h
    split at h
    · simp only [Bool.and_eq_true, decide_eq_true_eq] at h
      obtain ⟨⟨⟨⟨⟨h1, h2⟩, h3⟩, h4⟩, h5⟩, h6⟩ := h
      subst h1 h2
      exact pe_ch (cmAll O.K O.u65 _) (cmAll O.K O.u65 _) (Xp.sound a O h4) (Xp.sound b O h5) (Xp.sound c O h6) h3
    · cases h
  | .and a b, t, e, X, W, O, h => by
    simp only [Xp.chk] at h
    split at h
    · simp only [Bool.and_eq_true, decide_eq_true_eq] at h
      exact pe_andA (Xp.sound a O h.1) (pe_one (Xp.sound b O h.2))
    · simp only [Bool.and_eq_true, decide_eq_true_eq] at h
      exact pe_andA (Xp.sound a O h.1) (Xp.sound b O h.2)
    · cases h
  | .or a b, t, e, X, W, O, h => by
    simp only [Xp.chk] at h
    split at h
    · simp only [Bool.and_eq_true, decide_eq_true_eq] at h
      exact pe_orA (Xp.sound a O h.1) (pe_one (Xp.sound b O h.2))
    · simp only [Bool.and_eq_true, decide_eq_true_eq] at h
      exact pe_orA (Xp.sound a O h.1) (Xp.sound b O h.2)
    · cases h
  | .not a, t, e, X, W, O, h => by
    simp only [Xp.chk] at h
    split at h
    · exact pe_notA (Xp.sound a O h)
    · cases h
  | .ite c a b, t, e, X, W, O, h => by
    simp only [Xp.chk] at h
    split at h
    · simp only [Bool.and_eq_true, decide_eq_true_eq] at h
      obtain ⟨⟨h1, h2⟩, h3⟩ := h
      exact pe_ifExp (Tt.sound c O h1) (Xp.sound a O h2) (Xp.sound b O h3)
    · cases h
  | .tup es, t, e, X, W, O, h => by
    simp only [Xp.chk] at h
    split at h
    · exact pe_tup (Xps.sound es O h)
    · cases h
  | .lst es, t, e, X, W, O, h => by
    simp only [Xp.chk] at h
    split at h
    · exact pe_lst (Xps.sound es O h)
    · cases h
  | .dct0, t, e, X, W, O, h => by
    simp only [Xp.chk] at h
    split at h
    · exact pe_dnewK
    · cases h
  | .dctT0, t, e, X, W, O, h => by
    simp only [Xp.chk] at h
    split at h
    · exact pe_dnewT
    · cases h
  | .dct ks vs, t, e, X, W, O, h => by
    simp only [Xp.chk] at h
    split at h
    · rename_i keys values pos
      simp only [Bool.and_eq_true, decide_eq_true_eq] at h
      obtain ⟨⟨⟨⟨⟨h1, h2⟩, h3⟩, h4⟩, h5⟩, h6⟩ := h
      exact pe_disp (pps_of h1 h6 (Xps.soundD ks O h4) (Xps.soundD vs O h5)) h1 h6 h2 h3
    · cases h
  | .dget d k x, t, e, X, W, O, h => by
    simp only [Xp.chk] at h
    split at h
    · rename_i r m ap l1 l2 p
      simp only [Bool.and_eq_true, decide_eq_true_eq] at h
      obtain ⟨⟨⟨⟨⟨⟨⟨h1, h2⟩, h3⟩, h4⟩, h5⟩, h6⟩, h7⟩, h8⟩ := h
      subst h1
      refine pe_dget2 (Nat.lt_of_le_of_lt (Nat.add_le_add_left (by decide : 1 ≤ 65) _) O.u65) (Xp.sound d O h6) (Xp.sound k O h7) (Xp.sound x O h8) ⟨attr_plain h2 _ _ _, ?_, h3, by rw [starEach_cons h4, starEach_cons h5]; rfl⟩
      rw [backTo_all (by rw [List.all_cons, List.all_cons, h4, h5]; rfl)]
      rfl
    · cases h
  | .lrg1 a, t, e, X, W, O, h => by
    simp only [Xp.chk] at h
    split at h
    · simp only [Bool.and_eq_true, decide_eq_true_eq] at h
      obtain ⟨⟨⟨⟨⟨⟨h0, h1⟩, h2⟩, h3⟩, h4⟩, h5⟩, h6⟩ := h
      subst h1 h2
      exact pe_listRg (O.calm (hotF h0)) (O.gl h3) (O.bt (by decide +kernel)) (prg_1 (O.gl h4) (O.bt (by decide +kernel)) (Xp.sound a O h6) (starEach_cons h5 _ _)) (starEach_cons rfl _ _)
    · cases h
  | .lrg2 a b, t, e, X, W, O, h => by
    simp only [Xp.chk] at h
    split at h
    · simp only [Bool.and_eq_true, decide_eq_true_eq] at h
      obtain ⟨⟨⟨⟨⟨⟨⟨⟨h0, h1⟩, h2⟩, h3⟩, h4⟩, h5⟩, h6⟩, h7⟩, h8⟩ := h
      subst h1 h2
      exact pe_listRg (O.calm (hotF h0)) (O.gl h3) (O.bt (by decide +kernel)) (prg_2 (O.gl h4) (O.bt (by decide +kernel)) (Xp.sound a O h7) (Xp.sound b O h8) (starEach_cons h5 _ _) (starEach_cons h6 _ _) (backTo_any (by rw [List.all_cons, h6]; rfl))) (starEach_cons rfl _ _)
    · cases h
  | .chn3 o1 o2 o3 a b c d, t, e, X, W, O, h => by
    simp only [Xp.chk] at h
    split at h
    · simp only [Bool.and_eq_true, decide_eq_true_eq] at h
      obtain ⟨⟨⟨⟨⟨⟨⟨h1, h2⟩, h2'⟩, h3⟩, h4⟩, h5⟩, h6⟩, h7⟩ := h
      subst h1 h2 h2'
      exact pe_ch3 (cmAll O.K O.u65 _) (cmAll O.K O.u65 _) (cmAll O.K O.u65 _) (Xp.sound a O h4) (Xp.sound b O h5) (Xp.sound c O h6) (Xp.sound d O h7) h3
    · cases h
  | .ef i f, t, e, X, W, O, h => by
    simp only [Xp.chk] at h
    split at h
    · rename_i x p1 m p2
      simp only [Bool.and_eq_true, decide_eq_true_eq] at h
      obtain ⟨⟨⟨⟨h1, h2⟩, h3⟩, h4⟩, h5⟩ := h
      subst h1
      have pv : PE X (.Name x p1) (tVar i) := pe_var (by rw [O.N]; exact h3) (O.vis h4) (dbg1 h5) (dbg2 h5)
      obtain ⟨X0, a0, oe, pn, cls, d, eX, ev, hz, hf⟩ := O.suit h2
      subst eX
      refine ⟨fun pins s σ H Q I q => ?_⟩
      obtain ⟨a, dd, j, fs, z, e1, hj, hs, hd, hl, q⟩ := q
      rw [ev] at e1
      cases e1
      rw [O.F.vxs] at hj
      obtain ⟨_, E, _⟩ := O.F.exs _ hj
      have E : ExCls X0.prog v.K (v.cls j) m := E
      rw [O.K] at E
      exact (pe_xf (X := X0) (C := v.cls j) E.xf E.no hz hf pv (by rfl)).run pins s σ H Q I ⟨.ref a0, hs, rfl, rfl, dd, fs, z, rfl, hd, hl, q⟩
    · cases h
  | .ei i C, t, e, X, W, O, h => by
    simp only [Xp.chk] at h
    split at h
    · rename_i n1 p0 x p1 c p2 p3
      simp only [Bool.and_eq_true, decide_eq_true_eq] at h
      obtain ⟨⟨⟨⟨⟨⟨⟨⟨⟨h1, h2⟩, h3⟩, h4⟩, h5⟩, h6⟩, h7⟩, h8⟩, h9⟩, h10⟩ := h
      subst h1 h7
      have hmc : X.mg (t.cn C) = some (.ref (v.cls C)) := by
        rw [Bool.or_eq_true] at h10
        rcases h10 with h10 | h10
        · rw [List.any_eq_true] at h10
          obtain ⟨q, hq, e⟩ := h10
          have e := of_decide_eq_true e
          rw [← e]
          exact (O.F.exs q hq).1
        · exact O.F.bss C (by simpa using h10)
      have pv : PE X (.Name x p1) (tVar i) := pe_var (by rw [O.N]; exact h4) (O.vis h5) (dbg1 h6) (dbg2 h6)
      have pc : PE X (.Name (t.cn C) p2) (tC (.ref (v.cls C))) := pe_glob (O.gl h8) hmc rfl (dbg1 h9)
      obtain ⟨X0, a0, oe, pn, cls, d, eX, ev, hz, hf⟩ := O.suit h3
      subst eX
      refine ⟨fun pins s σ H Q I q => ?_⟩
      obtain ⟨a, dd, j, f, fs, b, e1, hj, hs, hd, hk, q⟩ := q
      rw [ev] at e1
      cases e1
      rw [O.F.vxs] at hj
      obtain ⟨_, _, E⟩ := O.F.exs _ hj
      have hK : v.K = X0.K := O.K
      rw [hK] at E hk
      refine (pe_callB (call_isED E hz hf) (O.gl h2) (O.bt (by decide +kernel)) (by decide +kernel) (pa_cons pv (pa_cons pc pa_nil (starEach_cons rfl _ _)) (starEach_cons rfl _ _)) (by decide +kernel) (by decide +kernel) (starEach_cons rfl _ _) (backTo_any rfl)).run pins s σ H Q I ?_
      exact ⟨.ref a0, hs, .ref (v.cls C), .ref (v.cls C), fs, b, rfl, fun u hu => hu, hd, hk, q⟩
    · cases h
  | .eib i n, t, e, X, W, O, h => by
    simp only [Xp.chk] at h
    split at h
    · rename_i n1 p0 x p1 c p2 p3
      simp only [Bool.and_eq_true, decide_eq_true_eq] at h
      obtain ⟨⟨⟨⟨⟨⟨⟨⟨h1, h2⟩, h3⟩, h4⟩, h5⟩, h6⟩, h7⟩, h8⟩, h9⟩ := h
      subst h1 h7 h9
      have pv : PE X (.Name x p1) (tVar i) := pe_var (by rw [O.N]; exact h4) (O.vis h5) (dbg1 h6) (dbg2 h6)
      have pc : PE X (.Name (Str.ofString "ValueError") p2) (tC (.ty "ValueError")) := pe_bltn (O.gl h8) (O.bt (by decide +kernel)) (by decide +kernel) rfl (by decide +kernel) (by decide +kernel)
      obtain ⟨X0, a0, oe, pn, cls, d, eX, ev, hz, hf⟩ := O.suit h3
      subst eX
      refine ⟨fun pins s σ H Q I q => ?_⟩
      obtain ⟨a, dd, j, f, fs, b, e1, hj, hs, hd, hk, q⟩ := q
      rw [ev] at e1
      cases e1
      rw [O.F.vxs] at hj
      obtain ⟨_, _, E⟩ := O.F.exs _ hj
      have hK : v.K = X0.K := O.K
      rw [hK] at E hk
      refine (pe_callB (call_isED E hz hf) (O.gl h2) (O.bt (by decide +kernel)) (by decide +kernel) (pa_cons pv (pa_cons pc pa_nil (starEach_cons rfl _ _)) (starEach_cons rfl _ _)) (by decide +kernel) (by decide +kernel) (starEach_cons rfl _ _) (backTo_any rfl)).run pins s σ H Q I ?_
      exact ⟨.ref a0, hs, .ty "ValueError", .type "ValueError", fs, b, rfl, fun u hu => hu, hd, hk, q⟩
    · cases h
  | .ix a i, t, e, X, W, O, h => by
    simp only [Xp.chk] at h
    split at h
    · simp only [Bool.and_eq_true, decide_eq_true_eq] at h
      obtain ⟨⟨h1, h2⟩, h3⟩ := h
      exact pe_ix (ixAll O.K (Nat.lt_of_le_of_lt (Nat.add_le_add_left (by decide : 1 ≤ 65) _) O.u65)) (Xp.sound a O h1) (Xp.sound i O h2) fun o i => subs_plain h3 o i
    · cases h
  | .sl a lo hi, t, e, X, W, O, h => by
    simp only [Xp.chk] at h
    split at h
    · simp only [Bool.and_eq_true, decide_eq_true_eq] at h
      obtain ⟨⟨h1, h2⟩, h3⟩ := h
      exact pe_slice (slAll O.K) (Xp.sound a O h1) (Xpo.sound lo O h2) (Xpo.sound hi O h3)
    · cases h
  | .rev a, t, e, X, W, O, h => by
    simp only [Xp.chk] at h
    split at h
    · refine ⟨fun pins s σ H Q I q => (pe_revL (Xp.sound a O h)).run pins s σ H Q I ?_⟩
      rw [← O.K]
      exact q
    · cases h
  | .fld C o f, t, e, X, W, O, h => by
    simp only [Xp.chk] at h
    split at h
    · simp only [Bool.and_eq_true, decide_eq_true_eq] at h
      obtain ⟨⟨⟨h1, h2⟩, h3⟩, h4⟩ := h
      subst h1
      obtain ⟨c, n⟩ := ok_fld O h2
      refine ⟨fun pins s σ H Q I q => attr_of (attr_plain h3 _ _ _) (thn ((Xp.sound o O h4).run pins s σ H _ I q) fun u s1 ⟨x, H1, I1, rx, a, dx, fs, w, ex, ea, l, q1⟩ => ?_)⟩
      subst ex
      cases rx
      exact getattr_ok I1 ea c n l fun u' s2 I2 ru => ⟨w, H1, I2, ru, q1⟩
    · cases h
  | .call f es, t, e, X, W, O, h => by
    simp only [Xp.chk] at h
    split at h
    · simp only [Bool.and_eq_true, decide_eq_true_eq] at h
      obtain ⟨⟨⟨⟨⟨h0, h1⟩, h2⟩, h3⟩, h4⟩, h5⟩ := h
      have hh := hotF h0
      subst h1
      obtain ⟨fd, ps, F, b, c1, c2⟩ := ok_call O h2
      rename_i x p l pos
      have st := Xps.stars h5
      cases l with
      | nil =>
        cases es with
        | nil => exact peCallG0 F ((O.room hh).mono (Nat.le_succ _)) b (O.tk hh) (O.gl h3) c1 c2 (dbg1 h4)
        | cons a r => cases h5
      | cons y ys => exact peCallG F ((O.room hh).mono (Nat.le_succ _)) b (O.tk hh) (O.gl h3) c1 c2 (Xps.sound es O h5) (dbg1 h4) (starEach_cons (all_tail st).1 _ _) (backTo_any (all_tail st).2)
    · cases h
  | .callk f es ks, t, e, X, W, O, h => by
    simp only [Xp.chk] at h
    split at h
    · simp only [Bool.and_eq_true, decide_eq_true_eq] at h
      obtain ⟨⟨⟨⟨⟨⟨⟨h0, h1⟩, h2⟩, h3⟩, h4⟩, h6⟩, h5⟩, h7⟩ := h
      have hh := hotF h0
      subst h1
      obtain ⟨fd, ps, F, b, c1, c2⟩ := ok_calls O h2
      have st := Xps.stars h5
      rename_i x p a l kws pos
      have hn := kw_names (pos := pos) (env := X.env) h6
      have hl : (t.kw f).length = ks.len := by
        have e1 := congrArg List.length h6
        have e2 := Xps.len_chk h7
        rw [List.length_map, List.length_map] at e1
        rw [List.length_map] at e2
        omega
      show PE X _ (fun σ H Q => es.den v W σ H fun vs H1 => ks.den v W σ H1 fun zs H2 => zs.length = ks.len ∧ v.sp f (vs ++ zs) H2 Q fun c d H3 => W c d σ H3)
      rw [← hl]
      exact peCallKG F ((O.room hh).mono (Nat.le_succ _)) b (O.tk hh) (O.gl h3) c1 c2 (Xps.sound es O h5) (Xps.soundK ks O h7) hn.1 hn.2.1 (dbg1 h4) (starEach_cons (all_tail st).1 _ _) (by rw [backTo_any st, hn.2.2]; rfl)
    · cases h
  | .bits a, t, e, X, W, O, h => by
    simp only [Xp.chk] at h
    split at h
    · simp only [Bool.and_eq_true, decide_eq_true_eq] at h
      obtain ⟨⟨⟨h1, h2⟩, h3⟩, h4⟩ := h
      subst h1
      exact pe_bits (Xp.sound a O h4) (attr_plain h2 _ _ _) h3
    · cases h
  | .mk C f es, t, e, X, W, O, h => by
    simp only [Xp.chk] at h
    split at h
    · simp only [Bool.and_eq_true, decide_eq_true_eq] at h
      obtain ⟨⟨⟨⟨⟨h0, h1⟩, h2⟩, h3⟩, h4⟩, h5⟩ := h
      have hh := hotF h0
      subst h1
      obtain ⟨fd, ps, F, b, c1, c2⟩ := ok_mk O h2
      rename_i x p l pos
      have st := Xps.stars h5
      cases l with
      | nil =>
        cases es with
        | nil => exact peMakeG0 c2 F (O.room hh) b (O.tk hh) (O.gl h3) c1 (dbg1 h4)
        | cons a r => cases h5
      | cons y ys => exact peMakeG c2 F (O.room hh) b (O.tk hh) (O.gl h3) c1 (Xps.sound es O h5) (dbg1 h4) (starEach_cons (all_tail st).1 _ _) (backTo_any (all_tail st).2)
    · cases h
  | .meth f C nm o es, t, e, X, W, O, h => by
    simp only [Xp.chk] at h
    split at h
    · simp only [Bool.and_eq_true] at h
      obtain ⟨⟨⟨⟨⟨⟨⟨h0, h1⟩, h2⟩, h3⟩, h4⟩, h5⟩, h6⟩, h7⟩ := h
      have hh := hotF h0
      have h1 := of_decide_eq_true h1
      subst h1
      obtain ⟨fd, ps, F, b, c1, c2⟩ := ok_meth O h2
      rename_i r x ap l pos
      have st := Xps.stars h7
      have mt := meth_tree (X := X) (m := x) h3 h4 h5 st
      cases l with
      | nil =>
        cases es with
        | nil => exact peMethG0 (Xp.sound o O h6) c1 c2 F ((O.room hh).mono (Nat.le_succ _)) b (O.tk hh) mt
        | cons a r => cases h7
      | cons y ys => exact peMethG (Xp.sound o O h6) c1 c2 F ((O.room hh).mono (Nat.le_succ _)) b (O.tk hh) (Xps.sound es O h7) (starEach_cons (all_tail st).1 _ _) (backTo_any (all_tail st).2) mt
    · cases h
  | .bc b es, t, e, X, W, O, h => by
    simp only [Xp.chk] at h
    split at h
    · simp only [Bool.and_eq_true, decide_eq_true_eq] at h
      obtain ⟨⟨⟨h0, h1⟩, h2⟩, h3⟩ := h
      subst h1
      have st := Xps.stars h3
      have cr : CallR X b.val (rBf v.K b) := by
        by_cases hb : b = .isi
        · rw [hb]; exact isiOk O.K
        · exact bfOk O.F.sysm O.K (O.calm (hotF (by simpa [hb] using h0))) O.grd O.u65 b
      have bo := b.boot
      cases hv : b.val with
      | builtin i =>
        rw [hv] at cr bo
        exact pe_callB cr (O.gl h2) (O.bt (bf_in b)) bo (Xps.sound es O h3) b.notName b.notDbg (starEach_cons (all_tail st).1 _ _) (backTo_any (all_tail st).2)
      | type i =>
        rw [hv] at cr bo
        exact pe_callTy cr (O.gl h2) (O.bt (bf_in b)) bo (Xps.sound es O h3) b.notName b.notDbg (starEach_cons (all_tail st).1 _ _) (backTo_any (all_tail st).2)
      | _ => cases b <;> cases hv
    · cases h
  | .lenO f C es, t, e, X, W, O, h => by
    simp only [Xp.chk] at h
    split at h
    · simp only [Bool.and_eq_true, decide_eq_true_eq] at h
      obtain ⟨⟨⟨⟨h0, h1⟩, h2⟩, h4⟩, h3⟩ := h
      have hh := hotF h0
      subst h1
      have st := Xps.stars h3
      obtain ⟨fd, ps, F, b, c1, c2⟩ := ok_meth O h4
      have cr := callLenO c2 F (O.room hh) b (O.tk hh)
      exact pe_callB cr (O.gl h2) (O.bt (bf_in .len)) Bf.len.boot (Xps.sound es O h3) Bf.len.notName Bf.len.notDbg (starEach_cons (all_tail st).1 _ _) (backTo_any (all_tail st).2)
    · cases h
  | .bm k o es, t, e, X, W, O, h => by
    simp only [Xp.chk] at h
    split at h
    · simp only [Bool.and_eq_true] at h
      obtain ⟨⟨⟨⟨⟨⟨h0, h1⟩, h3⟩, h4⟩, h5⟩, h6⟩, h7⟩ := h
      have hh := hotF h0
      have h1 := of_decide_eq_true h1
      subst h1
      rename_i r ap l pos
      have st := Xps.stars h7
      have hm := bmOk (X := X) O.K (O.calm hh) k
      cases l with
      | nil =>
        cases es with
        | nil =>
          refine ⟨fun pins s σ H Q I q => (pe_bm0 k.plain k.slot k.desc hm (Xp.sound o O h6) (attr_plain h3 _ _ _) h5).run pins s σ H Q I ?_⟩
          unfold tBM0
          rw [← O.K]
          exact q
        | cons a r => cases h7
      | cons y ys =>
        refine ⟨fun pins s σ H Q I q => (pe_bm k.plain k.slot k.desc hm (Xp.sound o O h6) (Xps.sound es O h7) (attr_plain h3 _ _ _) ?_ h5 (starEach_cons (all_tail st).1 _ _) (backTo_any (all_tail st).2)).run pins s σ H Q I ?_⟩
        · rw [backTo_all st]
          have h4 := of_decide_eq_true h4
          simpa [keywordEach, backToKw] using h4
        · unfold tBM
          rw [← O.K]
          exact q
    · cases h
  | .mxd mx a d, t, e, X, W, O, h => by
    simp only [Xp.chk] at h
    split at h
    · simp only [Bool.and_eq_true, decide_eq_true_eq] at h
      obtain ⟨⟨⟨⟨⟨⟨h0, h1⟩, h2⟩, h3⟩, h4⟩, h5⟩, h6⟩ := h
      have hh := hotF h0
      subst h2
      rename_i x p l r kp pos
      have hst : nStar l = true := h4
      cases mx with
      | true =>
        subst h1
        have g := pe_callBK (p := p) (pos := pos) (x := "max") (kws := [⟨some "default", r, kp⟩]) (MX.cr_maxDf (O.calm hh) O.u65) (O.gl h3) (O.bt (by decide +kernel)) (by first | rfl | decide +kernel) (pa_cons (Xp.sound a O h5) pa_nil (starEach_cons h4 _ _)) (pk_cons (nm := some "default") (kpos := kp) (Xp.sound d O h6) pk_nil) (by decide) (by decide) (by rw [starEach_cons h4 _ _]; rfl) (by rw [starEach_cons h4 _ _]; rfl)
        rw [← O.K] at g
        exact g
      | false =>
        subst h1
        have g := pe_callBK (p := p) (pos := pos) (x := "min") (kws := [⟨some "default", r, kp⟩]) (MX.cr_minDf (O.calm hh) O.u65) (O.gl h3) (O.bt (by decide +kernel)) (by first | rfl | decide +kernel) (pa_cons (Xp.sound a O h5) pa_nil (starEach_cons h4 _ _)) (pk_cons (nm := some "default") (kpos := kp) (Xp.sound d O h6) pk_nil) (by decide) (by decide) (by rw [starEach_cons h4 _ _]; rfl) (by rw [starEach_cons h4 _ _]; rfl)
        rw [← O.K] at g
        exact g
    · cases h
  | .dc k el tg it ifs own, t, e, X, W, O, h => by
    simp only [Xp.chk] at h
    split at h
    · simp only [Bool.and_eq_true, decide_eq_true_eq] at h
      obtain ⟨⟨⟨⟨⟨⟨⟨h0, h1⟩, h2⟩, h3⟩, h4⟩, h5⟩, h7⟩, h6⟩ := h
      have hh := hotF h0
      rename_i x y tt ii ff sc pos
      have ok : BlkOk X.N X.env.scope sc (ownP t.N own) := by
        rw [O.N, O.sc]
        exact blkOk_by h1
      have g := pe_dc (pos := pos) (O.calm hh) (by rw [O.N]; exact O.nd) (Sq.sound it O h3) ok (fun s H C cl fp => Tg.sound tg (O.blk hh) h4) (fun s H C cl fp => Tto.sound ifs (O.blk hh) h5) (fun s H C cl fp => Xp.sound k (O.blk hh) h7) (fun s H C cl fp => Xp.sound el (O.blk hh) h6) (fun x => folded_plain h2 _ x)
      rw [ownP_snd] at g
      exact g
    · cases h
  | .lc el tg it ifs own, t, e, X, W, O, h => by
    simp only [Xp.chk] at h
    split at h
    · simp only [Bool.and_eq_true, decide_eq_true_eq] at h
      obtain ⟨⟨⟨⟨⟨⟨h0, h1⟩, h2⟩, h3⟩, h4⟩, h5⟩, h6⟩ := h
      have hh := hotF h0
      rename_i y tt ii ff sc pos
      have ok : BlkOk X.N X.env.scope sc (ownP t.N own) := by
        rw [O.N, O.sc]
        exact blkOk_by h1
      have g := pe_lc (pos := pos) (O.calm hh) (by rw [O.N]; exact O.nd) (Sq.sound it O h3) ok (fun s H C cl fp => Tg.sound tg (O.blk hh) h4) (fun s H C cl fp => Tto.sound ifs (O.blk hh) h5) (fun s H C cl fp => Xp.sound el (O.blk hh) h6) (fun x => folded_plain h2 _ x)
      rw [ownP_snd] at g
      exact g
    · cases h
theorem Xpo.sound : ∀ (c : Xpo) {t : CK} {e : Option Expr} {X : Cx} {W : WX}, Ok v fa m t X W → c.chk t e = true → PO X e (c.den v W)
  | .no, t, e, X, W, O, h => by
    simp only [Xpo.chk] at h
    split at h
    · exact po_none
    · cases h
  | .so a, t, e, X, W, O, h => by
    simp only [Xpo.chk] at h
    split at h
    · cases h
    · exact po_some (Xp.sound a O h)
theorem Xps.sound : ∀ (c : Xps) {t : CK} {l : List Expr} {X : Cx} {W : WX}, Ok v fa m t X W → c.chk t l = true → PA X l (c.den v W)
  | .nil, t, [], X, W, O, h => pa_nil
  | .nil, t, _ :: _, X, W, O, h => by cases h
  | .cons a r, t, [], X, W, O, h => by cases h
  | .cons a r, t, e :: es, X, W, O, h => by
    simp only [Xps.chk, Bool.and_eq_true] at h
    exact pa_cons (Xp.sound a O h.1.2) (Xps.sound r O h.2) (starEach_cons h.1.1 _ _)
theorem Xps.soundD : ∀ (c : Xps) {t : CK} {l : List Expr} {X : Cx} {W : WX}, Ok v fa m t X W → c.chk t l = true → PEs X l (c.dens v W)
  | .nil, t, [], X, W, O, h => .nil
  | .nil, t, _ :: _, X, W, O, h => by cases h
  | .cons a r, t, [], X, W, O, h => by cases h
  | .cons a r, t, e :: es, X, W, O, h => by
    simp only [Xps.chk, Bool.and_eq_true] at h
    exact .cons (Xp.sound a O h.1.2) (Xps.soundD r O h.2)
theorem Xps.soundK : ∀ (c : Xps) {t : CK} {l : List Keyword} {X : Cx} {W : WX}, Ok v fa m t X W → c.chk t (l.map (·.value)) = true → PK X l (c.den v W)
  | .nil, t, [], X, W, O, h => pk_nil
  | .nil, t, _ :: _, X, W, O, h => by cases h
  | .cons a r, t, [], X, W, O, h => by cases h
  | .cons a r, t, ⟨nm, e, kp⟩ :: es, X, W, O, h => by
    simp only [List.map_cons, Xps.chk, Bool.and_eq_true] at h
    exact pk_cons (Xp.sound a O h.1.2) (Xps.soundK r O h.2)
theorem Tt.sound : ∀ (c : Tt) {t : CK} {e : Expr} {X : Cx} {W : WX}, Ok v fa m t X W → c.chk t e = true → PT X e (c.den v W)
  | .tr a, t, e, X, W, O, h => by
    simp only [Tt.chk, Bool.and_eq_true] at h
    refine ⟨fun pins s σ H Q I q => isTrue_plain (thn ((Xp.sound a O h.2).run pins s σ H _ I q) fun u s1 ⟨x, H1, I1, r1, q1⟩ => ?_) (test_plain h.1 _ _)⟩
    exact truAll O.K pins s1 σ H1 x u Q I1 r1 q1
  | .cmp op a b, t, e, X, W, O, h => by
    simp only [Tt.chk] at h
    split at h
    · simp only [Bool.and_eq_true, decide_eq_true_eq] at h
      obtain ⟨⟨⟨h1, h2⟩, h3⟩, h4⟩ := h
      subst h1
      exact pt_cm (cmAll O.K O.u65 _) (Xp.sound a O h3) (Xp.sound b O h4) h2
    · cases h
  | .chn o1 o2 a b c, t, e, X, W, O, h => by
    simp only [Tt.chk] at h
    split at h
    · simp only [Bool.and_eq_true, decide_eq_true_eq] at h
      obtain ⟨⟨⟨⟨⟨h1, h2⟩, h3⟩, h4⟩, h5⟩, h6⟩ := h
      subst h1 h2
      exact pt_ch (cmAll O.K O.u65 _) (cmAll O.K O.u65 _) (Xp.sound a O h4) (Xp.sound b O h5) (Xp.sound c O h6) h3
    · cases h
  | .chn3 o1 o2 o3 a b c d, t, e, X, W, O, h => by
    simp only [Tt.chk] at h
    split at h
    · simp only [Bool.and_eq_true, decide_eq_true_eq] at h
      obtain ⟨⟨⟨⟨⟨⟨⟨h1, h2⟩, h2'⟩, h3⟩, h4⟩, h5⟩, h6⟩, h7⟩ := h
      subst h1 h2 h2'
      exact pt_ch3 (cmAll O.K O.u65 _) (cmAll O.K O.u65 _) (cmAll O.K O.u65 _) (Xp.sound a O h4) (Xp.sound b O h5) (Xp.sound c O h6) (Xp.sound d O h7) h3
    · cases h
  | .and a b, t, e, X, W, O, h => by
    simp only [Tt.chk] at h
    split at h
    · simp only [Bool.and_eq_true, decide_eq_true_eq] at h
      exact (pw_and (Tt.sound a O h.1) (pw_and1 (Tt.sound b O h.2))).pt
    · simp only [Bool.and_eq_true, decide_eq_true_eq] at h
      exact (pw_and (Tt.sound a O h.1) (PT.pwB (Tt.sound b O h.2))).pt
    · cases h
  | .or a b, t, e, X, W, O, h => by
    simp only [Tt.chk] at h
    split at h
    · simp only [Bool.and_eq_true, decide_eq_true_eq] at h
      exact (pw_or (Tt.sound a O h.1) (pw_or1 (Tt.sound b O h.2))).pt
    · simp only [Bool.and_eq_true, decide_eq_true_eq] at h
      exact (pw_or (Tt.sound a O h.1) (PT.pwB (Tt.sound b O h.2))).pt
    · cases h
  | .not a, t, e, X, W, O, h => by
    simp only [Tt.chk] at h
    split at h
    · exact pt_not (Tt.sound a O h)
    · cases h
theorem Tto.sound : ∀ (c : Tto) {t : CK} {l : List Expr} {X : Cx} {W : WX}, Ok v fa m t X W → c.chk t l = true → PTs X l (c.den v W)
  | .no, t, l, X, W, O, h => by
    simp only [Tto.chk] at h
    split at h
    · exact pts_nil
    · cases h
  | .so a, t, l, X, W, O, h => by
    simp only [Tto.chk] at h
    split at h
    · exact pts_one (Tt.sound a O h)
    · cases h
theorem Sq.sound : ∀ (c : Sq) {t : CK} {tg e : Expr} {X : Cx} {W : WX}, Ok v fa m t X W → c.chk t tg e = true → PI X tg e (c.den v W)
  | .lst a, t, tg, e, X, W, O, h => by
    have g := pi_list (tg := tg) (Xp.sound a O h)
    rw [← O.K] at g
    exact g
  | .tup a, t, tg, e, X, W, O, h => by
    have g := pi_tup (tg := tg) (Xp.sound a O h)
    rw [← O.K] at g
    exact g
  | .txt a, t, tg, e, X, W, O, h => pi_str (Xp.sound a O h)
  | .rng1 a, t, tg, e, X, W, O, h => by
    simp only [Sq.chk] at h
    split at h
    · simp only [Bool.and_eq_true, decide_eq_true_eq] at h
      obtain ⟨⟨⟨h1, h2⟩, h3⟩, h4⟩ := h
      subst h1
      exact pi_range1 (O.gl h2) (O.bt (by decide +kernel)) (pa_cons (Xp.sound a O h4) pa_nil (starEach_cons h3 _ _)) (starEach_cons h3 _ _)
    · cases h
  | .rng3 a b c, t, tg, e, X, W, O, h => by
    simp only [Sq.chk] at h
    split at h
    · simp only [Bool.and_eq_true, decide_eq_true_eq] at h
      obtain ⟨⟨⟨⟨⟨⟨⟨h1, h2⟩, h3⟩, h4⟩, h5⟩, h6⟩, h7⟩, h8⟩ := h
      subst h1
      exact pi_range3 (O.gl h2) (O.bt (by decide +kernel)) (pa_cons (Xp.sound a O h6) (pa_cons (Xp.sound b O h7) (pa_cons (Xp.sound c O h8) pa_nil (starEach_cons h5 _ _)) (starEach_cons h4 _ _)) (starEach_cons h3 _ _))
        (by rw [starEach_cons h3]) (backTo_any (by rw [List.all_cons, List.all_cons, h4, h5]; rfl))
    · cases h
  | .rng2 a b, t, tg, e, X, W, O, h => by
    simp only [Sq.chk] at h
    split at h
    · simp only [Bool.and_eq_true, decide_eq_true_eq] at h
      obtain ⟨⟨⟨⟨⟨h1, h2⟩, h3⟩, h4⟩, h5⟩, h6⟩ := h
      subst h1
      exact pi_range2 (O.gl h2) (O.bt (by decide +kernel)) (pa_cons (Xp.sound a O h5) (pa_cons (Xp.sound b O h6) pa_nil (starEach_cons h4 _ _)) (starEach_cons h3 _ _))
        (by rw [starEach_cons h3, starEach_cons h4]; rfl) (starEach_cons h4 _ _)
    · cases h
  | .enm a, t, tg, e, X, W, O, h => by
    simp only [Sq.chk] at h
    split at h
    · simp only [Bool.and_eq_true, decide_eq_true_eq] at h
      obtain ⟨⟨⟨h1, h2⟩, h3⟩, h4⟩ := h
      subst h1
      have g := fun (elts : List Expr) (kk : Nat) (tp p pos : Pos) => pi_enum (elts := elts) (kk := kk) (tpos := tp) (p := p) (pos := pos) (O.gl h2) (O.bt (by decide +kernel)) (pa_cons (Xp.sound a O h4) pa_nil (starEach_cons h3 _ _)) (starEach_cons h3 _ _)
      rw [← O.K] at g
      exact g _ _ _ _ _
    · cases h
  | .enmT a, t, tg, e, X, W, O, h => by
    simp only [Sq.chk] at h
    split at h
    · simp only [Bool.and_eq_true, decide_eq_true_eq] at h
      obtain ⟨⟨⟨h1, h2⟩, h3⟩, h4⟩ := h
      subst h1
      have g := fun (elts : List Expr) (kk : Nat) (tp p pos : Pos) => pi_enumT (elts := elts) (kk := kk) (tpos := tp) (p := p) (pos := pos) (O.gl h2) (O.bt (by decide +kernel)) (pa_cons (Xp.sound a O h4) pa_nil (starEach_cons h3 _ _)) (starEach_cons h3 _ _)
      rw [← O.K] at g
      exact g _ _ _ _ _
    · cases h
  | .zip a b, t, tg, e, X, W, O, h => by
    simp only [Sq.chk] at h
    split at h
    · simp only [Bool.and_eq_true, decide_eq_true_eq] at h
      obtain ⟨⟨⟨⟨⟨h1, h2⟩, h3⟩, h4⟩, h5⟩, h6⟩ := h
      subst h1
      have g := fun (elts : List Expr) (kk : Nat) (tp p pos : Pos) => RZ.pi_zipA (elts := elts) (kk := kk) (tpos := tp) (p := p) (pos := pos) (O.gl h2) (O.bt (by decide +kernel)) (pa_cons (Xp.sound a O h5) (pa_cons (Xp.sound b O h6) pa_nil (starEach_cons h4 _ _)) (starEach_cons h3 _ _)) (starEach_cons h3 _ _) (by rw [starEach_cons h4]; rfl)
      rw [← O.K] at g
      exact g _ _ _ _ _
    · cases h
  | .zipS a b, t, tg, e, X, W, O, h => by
    simp only [Sq.chk] at h
    split at h
    · simp only [Bool.and_eq_true, decide_eq_true_eq] at h
      obtain ⟨⟨⟨⟨⟨h1, h2⟩, h3⟩, h4⟩, h5⟩, h6⟩ := h
      subst h1
      have g := fun (elts : List Expr) (kk : Nat) (tp p pos : Pos) => pi_zipS (elts := elts) (kk := kk) (tpos := tp) (p := p) (pos := pos) (O.gl h2) (O.bt (by decide +kernel)) (pa_cons (Xp.sound a O h5) (pa_cons (Xp.sound b O h6) pa_nil (starEach_cons h4 _ _)) (starEach_cons h3 _ _)) (starEach_cons h3 _ _) (by rw [starEach_cons h4]; rfl)
      exact g _ _ _ _ _
    · cases h
  | .rvs a, t, tg, e, X, W, O, h => by
    simp only [Sq.chk] at h
    split at h
    · simp only [Bool.and_eq_true, decide_eq_true_eq] at h
      obtain ⟨⟨⟨h1, h2⟩, h3⟩, h4⟩ := h
      subst h1
      have g := fun (p pos : Pos) => RT.pi_revA (tg := tg) (p := p) (pos := pos) (O.gl h2) (O.bt (by decide +kernel)) (Xp.sound a O h4) (starEach_cons h3 _ _)
      rw [← O.K] at g
      exact g _ _
    · cases h
  | .rvT a, t, tg, e, X, W, O, h => by
    simp only [Sq.chk] at h
    split at h
    · simp only [Bool.and_eq_true, decide_eq_true_eq] at h
      obtain ⟨⟨⟨h1, h2⟩, h3⟩, h4⟩ := h
      subst h1
      have g := fun (p pos : Pos) => RX.pi_revT (tg := tg) (p := p) (pos := pos) (O.gl h2) (O.bt (by decide +kernel)) (Xp.sound a O h4) (starEach_cons h3 _ _)
      exact g _ _
    · cases h
  | .rvr1 a, t, tg, e, X, W, O, h => by
    simp only [Sq.chk] at h
    split at h
    · simp only [Bool.and_eq_true, decide_eq_true_eq] at h
      obtain ⟨⟨⟨⟨⟨h1, h2⟩, h3⟩, h4⟩, h5⟩, h6⟩ := h
      subst h1 h2
      exact pi_revR (O.gl h3) (O.bt (by decide +kernel)) (prg_1 (O.gl h4) (O.bt (by decide +kernel)) (Xp.sound a O h6) (starEach_cons h5 _ _)) (starEach_cons rfl _ _)
    · cases h
  | .rvr2 a b, t, tg, e, X, W, O, h => by
    simp only [Sq.chk] at h
    split at h
    · simp only [Bool.and_eq_true, decide_eq_true_eq] at h
      obtain ⟨⟨⟨⟨⟨⟨⟨h1, h2⟩, h3⟩, h4⟩, h5⟩, h6⟩, h7⟩, h8⟩ := h
      subst h1 h2
      exact pi_revR (O.gl h3) (O.bt (by decide +kernel)) (prg_2 (O.gl h4) (O.bt (by decide +kernel)) (Xp.sound a O h7) (Xp.sound b O h8) (starEach_cons h5 _ _) (starEach_cons h6 _ _) (backTo_any (by rw [List.all_cons, h6]; rfl))) (starEach_cons rfl _ _)
    · cases h
  | .any a b, t, tg, e, X, W, O, h => by
    simp only [Sq.chk, Bool.and_eq_true] at h
    exact PI.or (Sq.sound a O h.1) (Sq.sound b O h.2)
theorem Tg.sound : ∀ (c : Tg) {t : CK} {e : Expr} {X : Cx} {W : WX}, Ok v fa m t X W → c.chk t e = true → PG X e (c.den v W)
  | .nm i, t, e, X, W, O, h => by
    simp only [Tg.chk] at h
    split at h
    · simp only [Bool.and_eq_true, decide_eq_true_eq] at h
      obtain ⟨h1, h2⟩ := h
      have nd : X.N.Nodup := by rw [O.N]; exact O.nd
      rename_i x pos
      have hi : X.N[i]? = some x := by rw [O.N]; exact h1
      split at h2
      · rename_i hb
        rcases Bool.or_eq_true _ _ |>.mp h2 with h2 | h2
        · have h2 := of_decide_eq_true h2
          rw [← O.sc] at h2
          exact pg_name nd hi (.inl h2) (.inr h2)
        · simp only [Bool.and_eq_true, decide_eq_true_eq] at h2
          have h3 := h2.1
          rw [← O.sc] at h3
          exact pg_name nd hi (.inr h3) (.inl (O.own hb _ h2.2))
      · rename_i hb
        exact pg_name nd hi (O.loc h2) (.inl (O.fnc (by simpa using hb) _))
    · cases h
  | .tup gs, t, e, X, W, O, h => by
    simp only [Tg.chk] at h
    split at h
    · rename_i l kk pos
      simp only [Bool.and_eq_true] at h
      obtain ⟨h0, h⟩ := h
      have hh := hotF h0
      have g := pg_tup (k := kk) (pos := pos) (O.calm hh) (Tgs.sound gs O h) (gs_len h).1 (gs_len h).2
      have g2 := pg_lst (k := kk) (pos := pos) (O.calm hh) (Tgs.sound gs O h) (gs_len h).1 (gs_len h).2
      rw [← O.K] at g g2
      exact ⟨fun pins s σ H x u Q I r q => q.elim (g.run pins s σ H x u Q I r) (g2.run pins s σ H x u Q I r)⟩
    · cases h
  | .sub o i, t, e, X, W, O, h => by
    simp only [Tg.chk] at h
    split at h
    · simp only [Bool.and_eq_true, decide_eq_true_eq] at h
      obtain ⟨⟨h1, h2⟩, h3⟩ := h
      exact pg_sub (Xp.sound o O h2) (Xp.sound i O h3) (setAll (Nat.lt_of_le_of_lt (Nat.add_le_add_left (by decide : 1 ≤ 65) _) O.u65)) fun v => sub_assign h1 v
    · cases h
theorem Tgs.sound : ∀ (c : Tgs) {t : CK} {l : List Expr} {X : Cx} {W : WX}, Ok v fa m t X W → c.chk t l = true → PGs X l (c.den v W)
  | .nil, t, [], X, W, O, h => pgs_nil
  | .nil, t, _ :: _, X, W, O, h => by cases h
  | .cons a r, t, [], X, W, O, h => by cases h
  | .cons a r, t, e :: es, X, W, O, h => by
    simp only [Tgs.chk, Bool.and_eq_true] at h
    exact pgs_cons (Tg.sound a O h.1.2) (Tgs.sound r O h.2) (by rw [assign_cons h.1.1]; rfl)
end
end
end DI

/-! DI, part 8: soundness for statements; every def at every depth. -/
namespace DI
open L2
open PySem.Spec
open PyProof.Rows hiding St
open PySem

section
variable {fa : Nat → Addr} {m : Nat}

theorem inop_all {v : Ev} {X : Cx} (hK : v.K = X.K) (op : Operator) : InOp X op (rAug v.K op) := fun pins s σ H x y u w Q I rx ry h => augAll hK op pins s σ H x y u w Q I rx ry h
set_option maxHeartbeats 2000000 in
mutual
theorem Sm.sound : ∀ (c : Sm) {v : Ev} {t : CK} {e : Stmt} {X : Cx} {W : WX}, Ok v fa m t X W → c.chk t e = true → PS X e (c.den v W)
  | .asg g y, v, t, e, X, W, O, h => by
    simp only [Sm.chk] at h
    split at h
    · simp only [Bool.and_eq_true] at h
      obtain ⟨⟨⟨⟨h1, h2⟩, h3⟩, h4⟩, h5⟩ := h
      rcases Bool.or_eq_true _ _ |>.mp h1 with h1 | h1
      · exact ps_asg (Xp.sound y O h5) (Tg.sound g O h4) (swap_plain h1 _ _ _) (swapped_plain h3) (by rw [assign_cons h2]; rfl)
      · exact ps_asg (Xp.sound y O h5) (Tg.sound g O h4) (swap_cell (by rw [O.sc]; exact h1) _) (swapped_plain h3) (by rw [assign_cons h2]; rfl)
    · cases h
  | .asl i el tg it ifs own, v, t, e, X, W, O, h => by
    simp only [Sm.chk] at h
    split at h
    · rename_i x px y tt ii ff sc p sp
      simp only [Bool.and_eq_true, Bool.not_eq_true'] at h
      obtain ⟨⟨⟨⟨⟨⟨⟨⟨⟨⟨⟨h0, h1⟩, h2⟩, h3⟩, h4⟩, h5⟩, h6⟩, h7⟩, h8⟩, h9⟩, h10⟩, h11⟩ := h
      have hh : t.hot = false := h0
      have h1 := of_decide_eq_true h1
      have h2 := of_decide_eq_true h2
      have h5 := of_decide_eq_true h5
      have ok : BlkOk X.N X.env.scope sc (ownP t.N own) := by
        rw [O.N, O.sc]
        exact blkOk_by h6
      have k5 : X.env.scope.kind = .function := by rw [O.sc]; exact h5
      have k2 : X.env.scope.names.lookup x = some .local := by rw [O.sc]; exact h2
      have g := ps_setLc (py := px) (pos := p) (spos := sp) (O.calm hh) (by rw [O.N]; exact O.nd) (by rw [O.N]; exact h1) k2 (sw_true k5 k2 h3 h4) (Sq.sound it O h8) ok
        (fun s H C cl fp => Tg.sound tg (O.blk hh) h9) (fun s H C cl fp => Tto.sound ifs (O.blk hh) h10) (fun s H C cl fp => Xp.sound el (O.blk hh) h11) (fun x => folded_plain h7 _ x)
      rw [ownP_snd] at g
      exact g
    · cases h
  | .par i j a b, v, t, e, X, W, O, h => by
    simp only [Sm.chk] at h
    split at h
    · rename_i x px y py kt pt e1 e2 k2 pt2 pos
      simp only [Bool.and_eq_true, decide_eq_true_eq] at h
      obtain ⟨⟨⟨⟨⟨⟨⟨⟨h0, h1⟩, h2⟩, h3⟩, h4⟩, h5⟩, h6⟩, h7⟩, h8⟩ := h
      have hh := hotF h0
      have l := parB_loc h4
      have l1 := l (x, px) (by simp)
      have l2 := l (y, py) (by simp)
      exact ps_par (O.calm hh) (by rw [O.N]; exact O.nd) (by rw [O.N]; exact h1) (by rw [O.N]; exact h2) h3 (by rw [O.sc]; exact l1) (by rw [O.sc]; exact l2)
        (pa_cons (Xp.sound a O h7) (pa_cons (Xp.sound b O h8) pa_nil (starEach_cons h6 _ _)) (starEach_cons h5 _ _)) (swapped_2 (by rw [O.sc]; exact h4))
    · cases h
  | .par3 i j l a b c, v, t, e, X, W, O, h => by
    simp only [Sm.chk] at h
    split at h
    · rename_i x px y py z pz kt pt e1 e2 e3 k2 pt2 pos
      simp only [Bool.and_eq_true, decide_eq_true_eq] at h
      obtain ⟨⟨⟨⟨⟨⟨⟨⟨⟨⟨⟨⟨⟨h0, h1⟩, h2⟩, h3⟩, h4⟩, h5⟩, h6⟩, h7⟩, h8⟩, h9⟩, h10⟩, h11⟩, h12⟩, h13⟩ := h
      have hh := hotF h0
      have l := parB_loc h7
      have l1 := l (x, px) (by simp)
      have l2 := l (y, py) (by simp)
      have l3 := l (z, pz) (by simp)
      exact ps_par3 (O.calm hh) (by rw [O.N]; exact O.nd) (by rw [O.N]; exact h1) (by rw [O.N]; exact h2) (by rw [O.N]; exact h3) h4 h5 h6 (by rw [O.sc]; exact l1) (by rw [O.sc]; exact l2) (by rw [O.sc]; exact l3)
        (pa_cons (Xp.sound a O h11) (pa_cons (Xp.sound b O h12) (pa_cons (Xp.sound c O h13) pa_nil (starEach_cons h10 _ _)) (starEach_cons h9 _ _)) (starEach_cons h8 _ _)) (swapped_3 (by rw [O.sc]; exact h7))
    · cases h
  | .fld C o f y, v, t, e, X, W, O, h => by
    simp only [Sm.chk] at h
    split at h
    · simp only [Bool.and_eq_true] at h
      obtain ⟨⟨⟨h1, h2⟩, h4⟩, h5⟩ := h
      have h1 := of_decide_eq_true h1
      subst h1
      obtain ⟨c, n⟩ := ok_fld O h2
      refine ⟨fun pins s σ H D I q => plainObj_wpAny_Assign_Attribute (thn ((Xp.sound y O h5).run pins s σ H _ I q) fun u s1 ⟨z, H1, I1, rz, q1⟩ =>
        thn ((Xp.sound o O h4).run pins s1 σ H1 _ I1 q1) fun ov s2 ⟨x, H2, I2, rx, a, dx, fs, ex, ea, l, q2⟩ => ?_) (swap_attr _ _ _ _ _ _)⟩
      subst ex
      cases rx
      exact setattr_ok I2 ea c n l rz fun s3 I3 => ⟨σ, _, I3, q2⟩
    · cases h
  | .aug i op y, v, t, e, X, W, O, h => by
    simp only [Sm.chk] at h
    split at h
    · simp only [Bool.and_eq_true, Bool.not_eq_true'] at h
      obtain ⟨⟨⟨⟨h1, h2⟩, h3⟩, h4⟩, h5⟩ := h
      have h1 := of_decide_eq_true h1
      have h2 := of_decide_eq_true h2
      subst h1
      refine PS.imp (ps_aug (by rw [O.N]; exact O.nd) (by rw [O.N]; exact h2) (O.loc h3) (Xp.sound y O h5) (augAll O.K _) (.inl (O.fnc h4 _))) fun D σ H q => ?_
      unfold Sm.den tAugA at q
      split at q
      · exact ⟨_, by assumption, q⟩
      · exact q.elim
    · cases h
  | .augf C o f op y, v, t, e, X, W, O, h => by
    simp only [Sm.chk] at h
    split at h
    · simp only [Bool.and_eq_true] at h
      obtain ⟨⟨⟨⟨h0, h1⟩, h2⟩, h4⟩, h5⟩ := h
      have h0 := of_decide_eq_true h0
      have h1 := of_decide_eq_true h1
      subst h0 h1
      obtain ⟨c, n⟩ := ok_fld O h2
      refine ⟨fun pins s σ H D I q => wpAny_AugAssign_AttributeAny (thn ((Xp.sound o O h4).run pins s σ H _ I q) fun ov s1 ⟨x, H1, I1, rx, a, dx, fs, w, ex, ea, l, q1⟩ => ?_)⟩
      subst ex
      cases rx
      refine getattr_ok I1 ea c n l fun u s2 I2 ru => thn ((Xp.sound y O h5).run pins s2 σ H1 _ I2 q1) fun w3 s3 ⟨z, H2, I3, rz, q3⟩ =>
        thn (inop_all O.K _ pins s3 σ H2 w z u w3 _ I3 ru rz q3) fun w4 s4 ⟨z', H3, I4, rz', fs', ea', l', q4⟩ => ?_
      exact setattr_ok I4 ea' c n l' rz' fun s5 I5 => ⟨σ, _, I5, q4⟩
    · cases h
  | .exp y, v, t, e, X, W, O, h => by
    simp only [Sm.chk] at h
    split at h
    · simp only [Bool.and_eq_true] at h
      exact ps_expr (Xp.sound y O h.2) (swap_plain h.1 _ _ _)
    · cases h
  | .ret y, v, t, e, X, W, O, h => by
    simp only [Sm.chk] at h
    split at h
    · exact ps_ret (Xp.sound y O h)
    · cases h
  | .retN, v, t, e, X, W, O, h => by
    simp only [Sm.chk] at h
    split at h
    · exact ps_retN
    · cases h
  | .pass, v, t, e, X, W, O, h => by
    simp only [Sm.chk] at h
    split at h
    · exact ps_pass
    · cases h
  | .brk, v, t, e, X, W, O, h => by
    simp only [Sm.chk] at h
    split at h
    · exact ps_break
    · cases h
  | .cnt, v, t, e, X, W, O, h => by
    simp only [Sm.chk] at h
    split at h
    · exact ps_continue
    · cases h
  | .ite c a b, v, t, e, X, W, O, h => by
    simp only [Sm.chk] at h
    split at h
    · simp only [Bool.and_eq_true] at h
      exact ps_if (Tt.sound c O h.1.1) (Sms.sound a O h.1.2) (Sms.sound b O h.2)
    · cases h
  | .whl c b, v, t, e, X, W, O, h => by
    simp only [Sm.chk] at h
    split at h
    · simp only [Bool.and_eq_true] at h
      exact ps_while O.pas (Tt.sound c O h.1) (Sms.sound b O h.2)
    · cases h
  | .for_ tg it b, v, t, e, X, W, O, h => by
    simp only [Sm.chk] at h
    split at h
    · simp only [Bool.and_eq_true] at h
      obtain ⟨⟨⟨⟨h0, h1⟩, h2⟩, h3⟩, h4⟩ := h
      exact ps_for O.pas (O.calm (hotF h0)) (Sq.sound it O h2) (Tg.sound tg O h3) (Sms.sound b O h4) fun x => folded_plain h1 _ x
    · cases h
  | .rai C f es, v, t, e, X, W, O, h => by
    simp only [Sm.chk] at h
    split at h
    · rename_i x p0 l r p1 p2
      simp only [Bool.and_eq_true] at h
      obtain ⟨⟨⟨⟨⟨h0, h1⟩, h2⟩, h3⟩, h4⟩, h5⟩ := h
      have hh := hotF h0
      have h1 := of_decide_eq_true h1
      subst h1
      have st := Xps.stars h5
      obtain ⟨mc, E, _⟩ := O.F.exs (C, f) (by simpa using h4)
      have E : ExCls X.prog v.K (v.cls C) f := E
      rw [O.K] at E
      exact ps_raise (O.calm hh) (O.tk hh) (pmk_sup E (O.room hh).r (O.gl h2) mc (Xps.sound es O h5) (dbg1 h3) (starEach_cons (all_tail st).1 _ _) (backTo_any (all_tail st).2))
    · cases h
  | .tryA b C i sb, v, t, e, X, W, O, h => by
    simp only [Sm.chk] at h
    split at h
    · rename_i body x p0 n b0 su p1 p2
      simp only [Bool.and_eq_true, Bool.not_eq_true'] at h
      obtain ⟨⟨⟨⟨⟨⟨⟨⟨⟨h0, hb⟩, h1⟩, h2⟩, h3⟩, h4⟩, h5⟩, h6⟩, h7⟩, h8⟩ := h
      have h1 := of_decide_eq_true h1
      have h5 := of_decide_eq_true h5
      have h6 := of_decide_eq_true h6
      subst h1
      have hmc := O.clsIn h4
      obtain ⟨tp, fr⟩ := O.top hb
      have g := ps_try_as (i := i) (ts := fun a c d => sb.den { v with ex := some (a, c, d) } fun _ _ _ _ => False) (tb := fun W' => b.den v W') (Wout := W) (np := p0) (pos := p2) (pos' := p1) tp fr (by rw [O.N]; exact O.nd) (by rw [O.N]; exact h5) (by show X.env.scope.names.lookup n = _; rw [O.sc]; exact h6) (c := .ref (v.cls C)) ⟨O.gl h2, dbg1 h3, .inl hmc⟩ (O.tk h0)
        (fun W' pn xe tk pa => Sms.sound b (O.tr h0 tk pa) h7) (fun a oe cls d pn hz hf => Sms.sound sb (O.suite hz hf) h8)
      rw [← O.K] at g
      exact g
    · cases h
  | .tryO b C sb, v, t, e, X, W, O, h => by
    simp only [Sm.chk] at h
    split at h
    · rename_i body x p0 b0 su p1 p2
      simp only [Bool.and_eq_true, Bool.not_eq_true'] at h
      obtain ⟨⟨⟨⟨⟨⟨⟨h0, hb⟩, h1⟩, h2⟩, h3⟩, h4⟩, h7⟩, h8⟩ := h
      have h1 := of_decide_eq_true h1
      subst h1
      have hmc := O.clsIn h4
      obtain ⟨tp, fr⟩ := O.top hb
      have g := ps_try_only (ts := fun a c d => sb.den { v with ex := some (a, c, d) } fun _ _ _ _ => False) (tb := fun W' => b.den v W') (Wout := W) (np := p0) (pos := p2) (pos' := p1) tp fr (c := .ref (v.cls C)) ⟨O.gl h2, dbg1 h3, .inl hmc⟩ (O.tk h0)
        (fun W' pn xe tk pa => Sms.sound b (O.tr h0 tk pa) h7) (fun a oe cls d pn hz hf => Sms.sound sb (O.suite hz hf) h8)
      rw [← O.K] at g
      exact g
    · cases h
  | .tryM b hs, v, t, e, X, W, O, h => by
    simp only [Sm.chk] at h
    split at h
    · rename_i body h0' hds p2
      simp only [Bool.and_eq_true, Bool.not_eq_true'] at h
      obtain ⟨⟨⟨h0, hb⟩, h7⟩, h8⟩ := h
      obtain ⟨tp, fr⟩ := O.top hb
      have g := ps_try_many (l := hs.den v) (tb := fun W' => b.den v W') (Wout := W) (pos := p2) tp fr (O.tk h0) (fun W' pn xe tk pa => Sms.sound b (O.tr h0 tk pa) h7) (Hds.sound hs O h8)
      rw [← O.K] at g
      exact g
    · cases h
  | .ddel d k, v, t, e, X, W, O, h => by
    simp only [Sm.chk] at h
    split at h
    · simp only [Bool.and_eq_true] at h
      exact ps_ddel (Xp.sound d O h.1) (Xp.sound k O h.2)
    · cases h
  | .never, v, t, e, X, W, O, h => ps_never
theorem Sms.sound : ∀ (c : Sms) {v : Ev} {t : CK} {l : List Stmt} {X : Cx} {W : WX}, Ok v fa m t X W → c.chk t l = true → PSs X l (c.den v W)
  | .nil, v, t, [], X, W, O, h => pss_nil
  | .nil, v, t, _ :: _, X, W, O, h => by cases h
  | .cons a r, v, t, [], X, W, O, h => by cases h
  | .cons a r, v, t, s :: ss, X, W, O, h => by
    simp only [Sms.chk, Bool.and_eq_true] at h
    exact pss_cons (Sm.sound a O h.1) (Sms.sound r O h.2)
theorem Hds.sound : ∀ (c : Hds) {v : Ev} {t : CK} {l : List ExceptHandler} {X : Cx} {W : WX}, Ok v fa m t X W → c.chk t l = true → HdsOk X l (c.den v)
  | .nil, v, t, [], X, W, O, h => .nil
  | .nil, v, t, _ :: _, X, W, O, h => by cases h
  | .cons C sb r, v, t, l, X, W, O, h => by
    simp only [Hds.chk] at h
    split at h
    · rename_i x p0 b0 su p1 hds
      simp only [Bool.and_eq_true] at h
      obtain ⟨⟨⟨⟨⟨h1, h2⟩, h3⟩, h4⟩, h8⟩, h9⟩ := h
      have h1 := of_decide_eq_true h1
      subst h1
      have hmc := O.clsIn h4
      exact .cons ⟨O.gl h2, dbg1 h3, .inl hmc⟩ (fun a oe cls d pn hz hf => Sms.sound sb (O.suite hz hf) h8) (Hds.sound r O h9)
    · cases h
end
end

/-- a def as code: its parameters, its names (the parameters first), its body -/
structure Df where
  ps : List Str
  N : List Str
  body : Sms
  kw : List Str
/-- the promise of each def by its own body, n deep -/
def spOf (v : Ev) (D : Nat → Df) : Nat → Nat → Sp
  | 0, _ => fun _ _ _ _ => False
  | n + 1, f => fun vs H Q E => vs.length = (D f).ps.length ∧
      (D f).body.den { v with sp := spOf v D n } (fun c d _ H' => E c d H') { nx := fun _ H' => Q .non H', rt := Q } (start (D f).N vs) H

/-- a def as it stands behind the top, and its code -/
structure DfOk (P : Program) (w : World) (mg : Str → Option Value) (K : PySem.W.Frag) (t : CK) (d : Df) (f : Addr) (fd : FuncData) : Prop where
  ex : ∃ (name qual : Str) (params : Arguments) (body : List Stmt) (scope : Scope) (dV kV doc pm cdv ct oc : Value) (an od : Option Addr) (osl : Array (Option Value)),
    fd = PySem.W.fnOf name qual params body scope dV kV doc pm an cdv ct ∧ K.lookup f = some ⟨oc, od, .func (PySem.W.fnOf name qual params body scope dV kV doc pm an cdv ct), osl⟩ ∧ PySem.W.codeIn K cdv qual = true ∧ FnScope d.N d.ps scope ∧
      d.body.chk { t with N := d.N, sc := scope, blk := false } body = true ∧ Bnd K (PySem.W.fnOf name qual params body scope dV kV doc pm an cdv ct) d.ps d.kw

/-- the program's facts but the promises -/
structure Base (P : Program) (mg : Str → Option Value) (v : Ev) (fa : Nat → Addr) (t : CK) : Prop where
  calls : ∀ f ∈ t.calls, mg (t.fn f) = some (.ref (fa f)) ∧ PySem.W.keepIn v.K (.ref (fa f)) = true
  mths : ∀ q ∈ t.mths, Cls v.K (v.cls q.1) ∧ Meth v.K (v.cls q.1) q.2.2 (fa q.2.1)
  mks : ∀ q ∈ t.mks, mg (t.cn q.1) = some (.ref (v.cls q.1)) ∧ Mk v.K (v.cls q.1) (fa q.2)
  flds : ∀ q ∈ t.flds, Cls v.K (v.cls q.1) ∧ NoAttr v.K (v.cls q.1) q.2
  gls : ∀ i ∈ t.gls, ∃ u, mg (t.gn i) = some u ∧ RelV (v.gv i) u
  bts : ∀ x ∈ btNames, mg x = none
  exs : ∀ q ∈ t.exs, mg (t.cn q.1) = some (.ref (v.cls q.1)) ∧ ExCls P v.K (v.cls q.1) q.2 ∧ ExcC v.K (v.cls q.1)
  bss : ∀ C ∈ t.bases, mg (t.cn C) = some (.ref (v.cls C))
  vxs : v.exs = t.exs
  cold : t.hot = false

theorem room65 {k : Nat} {A : Around} (hr : RoomG (k + 1) A) : A.units + 65 < cLine := by have := hr.r.un; omega
def inFn (t : CK) (f : Nat) : Prop := f ∈ t.calls ∨ (∃ C nm, (C, f, nm) ∈ t.mths) ∨ ∃ C, (C, f) ∈ t.mks
theorem all_fn {P : Program} {w : World} {mg : Str → Option Value} {base : Heap} {v : Ev} {fa : Nat → Addr} {t : CK} {D : Nat → Df} (sm : SysM base) (B : Base P mg v fa t)
    (hkw : ∀ f, (D f).kw = t.kw f) (hd : ∀ f, inFn t f → ∃ fd, DfOk P w mg v.K t (D f) (fa f) fd) : ∀ n f fd, DfOk P w mg v.K t (D f) (fa f) fd → FnG P w v.K mg base (2 * n) (fa f) fd (D f).ps (spOf v D n f) ∧ Bnd v.K fd (D f).ps (D f).kw
  | 0, f, fd, h => by
    obtain ⟨name, qual, params, body, scope, dV, kV, doc, pm, cdv, ct, oc, an, od, osl, e, lk, hcd, S, ck, b⟩ := h.ex
    subst e
    exact ⟨⟨fun vs H Q E h => h.elim, fun A outer s H args us vs Q E _ _ _ _ h => h.elim⟩, b⟩
  | n + 1, f, fd, h => by
    have ih := all_fn (base := base) sm B hkw hd n
    obtain ⟨name, qual, params, body, scope, dV, kV, doc, pm, cdv, ct, oc, an, od, osl, e, lk, hcd, S, ck, b⟩ := h.ex
    subst e
    refine ⟨fnG_of (k := 2 * n + 1) lk hcd S (fun vs H Q E h => h.1) fun A outer s H vs Q E hr h => ⟨_, ?_, h.2⟩, b⟩
    have cold := B.cold
    refine Sms.sound (m := 2 * n) (fa := fa) (t := { t with N := (D f).N, sc := scope, blk := false }) (D f).body ?_ ck
    exact { F := ⟨fun g hg => let ⟨fd, h⟩ := hd g hg; ⟨fd, _, (ih g fd h).1, hkw g ▸ (ih g fd h).2⟩, B.calls, B.mths, B.mks, B.flds, B.gls, B.bts, B.exs, B.bss, B.vxs, sm⟩, K := rfl, N := rfl, sc := rfl, nd := S.nd, calm := fun _ => rfl, room := fun _ => hr, grd := hr.g, u65 := room65 hr, tk := fun _ => takes_of rfl rfl rfl rfl, pas := passes_of rfl, fnc := fun _ _ => rfl, own := fun _ _ _ => rfl, top := fun _ => ⟨rfl, rfl⟩, suit := fun z => by rw [show t.hot = true from z] at cold; cases cold }
end DI

/-! DI, part 9: the law's end. -/
namespace DI
open L2
open PySem.Spec
open PyProof.Rows hiding St
open PySem

theorem lawG {P : Program} {w : World} {K : PySem.W.Frag} {mg mb : Str → Option Value} {k : Nat} {fa a : Addr} {fd : FuncData} {x : Str} {sp : Sp} {t : Shared} {vs : List Value} {ns : List Int}
    (KX : K.In t.heap) (hsm : ∃ mm, t.heap.Ns sysModules mm) (hns : t.heap.Ns mainGlobals mg) (hb : t.heap.Ns builtinsNs mb) (hbb : ∀ x : Str, x ≠ "__name__" → mb x = bootBuiltins x) (hlim : t.heap.NoLimit) (hg : t.gens = #[])
    (ha : t.heap.get? a = some { cls := .type "list", data := .seq vs.toArray }) (hi : IntsAre vs ns) (hl : ns.length ≤ sizeLine) (hr : RoomG k callerA)
    (F : ∀ base : Heap, K.In base → base.Ns mainGlobals mg → SysM base → FnG P w K mg base k fa fd [x] sp) (hbind : ∀ (s : Shared) (u : Value), K.In s.heap → BindsTo s fd ⟨[u], []⟩ [(x, u)])
    (hsp : ∀ H : Hp, Only H → SqL K H a (ns.map V.int) → sp [.ref a] H (fun v _ => v = .bl true) fun _ _ _ => False) :
    codeAny (model P w) callerA (.call (.ref fa) ⟨[.ref a], []⟩) (fun r s' => r = .ok (.ret (.bool true)) ∧ OldK t.heap s'.heap ∧ s'.os = t.os ∧ AllBare s'.gens) t := by
  have rvs := vals_ints hi
  have core : ∀ H : Hp, Only H → SqL K H a (ns.map V.int) → HOk P w H t.heap → (∀ b, H b ≠ none → b = a) → (H a ≠ none → K.lookup a = none) →
      codeAny (model P w) callerA (.call (.ref fa) ⟨[.ref a], []⟩) (fun r s' => r = .ok (.ret (.bool true)) ∧ OldK t.heap s'.heap ∧ s'.os = t.os ∧ AllBare s'.gens) t := by
    intro H only hS hok atA noK
    have dictFree : ∀ {b : Addr} {o : Obj} {es : Array DictEntry} {ep : Nat}, t.heap.get? b = some o → o.data = .dict es ep → H b = none := by
      intro b o es ep e d
      cases q : H b with
      | none => rfl
      | some u =>
        cases atA b (by rw [q]; simp)
        rw [ha] at e
        cases e
        cases d
    have nsT : ∀ {b : Addr} {f : Str → Option Value}, t.heap.Ns b f → (hidT t.heap H).Ns b f := by
      rintro b f ⟨o, es, ep, e, d, r⟩
      exact ⟨o, es, ep, hidT_get e (dictFree e d), d, r⟩
    have kin : K.In (hidT t.heap H) := by
      intro b o e
      refine hidT_get (KX b o e) ?_
      cases q : H b with
      | none => rfl
      | some u =>
        cases atA b (by rw [q]; simp)
        rw [noK (by rw [q]; simp)] at e
        cases e
    have md : Mod K mg (hidT t.heap H) := by
      obtain ⟨mc, l1, l2⟩ := hlim
      exact ⟨kin, nsT hns, ⟨mb, nsT hb, hbb⟩, ⟨mc, nsT l1, l2⟩⟩
    have e0 : Env0 P w K mg (hidT t.heap H) callerA [] t H := ⟨rfl, md, fun b o e => of_hidT e, Nat.le_of_eq (hidT_size _ _), trivial, (fun b z => by cases z), hok, .of_eq hg⟩
    refine codeAny_mono ((F _ kin (nsT hns) (by obtain ⟨mm, hm⟩ := hsm; obtain ⟨o, es, ep, e, d, _⟩ := nsT hm; exact ⟨o, es, ep, e, d⟩)).run callerA [] t H ⟨[.ref a], []⟩ [.ref a] [.ref a] _ _ hr e0 (hbind t (.ref a) KX) (.cons rfl .nil) (hsp H only hS)) fun r s' h => ?_
    rcases r with e | fl
    · obtain ⟨_, _, _, _, _, _, _, _, _, _, _, _, z⟩ := h
      exact z.elim
    · rcases fl with _ | _ | _ | u
      all_goals try exact False.elim h
      obtain ⟨z, H', os, bare, un, hok', rz, q⟩ := h
      have q : z = .bl true := q
      subst q
      cases rz
      refine ⟨rfl, OldK.of_keep fun b o e => ?_, os, bare⟩
      cases q : H b with
      | none => exact un.keep b o e q (by intro z; cases z) (by simp)
      | some u =>
        rcases only b with z | ⟨ob, xs, z⟩
        · rw [q] at z; cases z
        · have w1 := (hok b _ z).1
          have w2 := (hok' b _ (un.frzs b ob _ z)).1
          rw [e] at w1
          cases w1
          exact w2
  cases hk : K.lookup a with
  | some o =>
    have e := KX a o hk
    rw [ha] at e
    cases e
    exact core (fun _ => none) (fun _ => .inl rfl) (.inr ⟨_, vs.toArray, _, hk, rfl, rfl, rfl, by rw [List.size_toArray, hi.length]; exact hl, by simpa using rvs⟩) (fun b u z => by cases z) (fun b z => absurd rfl z) fun z => absurd rfl z
  | none =>
    refine core (fun b => if b = a then some (.frz { cls := .type "list", data := .seq vs.toArray } (.lst (ns.map V.int))) else none) (fun b => ?_) (.inl (.inr ⟨_, if_pos rfl⟩)) (fun b u z => ?_) (fun b z => ?_) fun _ => hk
    · by_cases hb : b = a
      · exact .inr ⟨_, _, if_pos hb⟩
      · exact .inl (if_neg hb)
    · by_cases hb : b = a
      · have y := (if_pos hb).symm.trans z
        cases y
        subst hb
        exact ⟨ha, by rw [List.length_map]; exact hl, vs, _, rvs, ha⟩
      · have y := (if_neg hb).symm.trans z
        cases y
    · by_cases hb : b = a
      · exact hb
      · exact absurd (if_neg hb) z

/-- the goal behind the head, from the program's facts and the law's promise -/
theorem walkG {l : PySem.W.OpenLaw} {q : Program} {loose : List Str} {XP : (Str → Option Value) → Heap → Prop} {YP : World → Heap → Prop} {d : DefRec} {K : Params → PySem.W.Frag} {x : Str} (m : Nat)
    (hq : importsNone q = true) (hn : l.most = some 63) (hdf : d.params.defaults = []) (hr : RoomG (2 * m) callerA) (hY : ∀ (w : World) (h : Heap), YP w h → (K w.params).In h)
    (F : ∀ (w : World) (mg : Str → Option Value) (fa : Addr) (h : Heap), (K w.params).In h → h.Ns mainGlobals mg → mg d.name = some (.ref fa) →
      ∃ (fd : FuncData) (sp : Sp), (∀ (s : Shared) (u : Value), (K w.params).In s.heap → BindsTo s fd ⟨[u], []⟩ [(x, u)]) ∧
        (∀ base : Heap, SysM base → FnG l.prog w (K w.params) mg base (2 * m) fa fd [x] sp) ∧
        ∀ (H : Hp) (a : Addr) (ns : List Int), ns.length ≤ 63 → SqL (K w.params) H a (ns.map V.int) → sp [.ref a] H (fun v _ => v = .bl true) fun _ _ _ => False) :
    PySem.W.WalkO q loose XP YP l.row.toRowW d [] (fun f vs => PySem.call f vs) := by
  refine Att.attach_call hn hdf fun w s₀ s₁ mg mb fa o pm cd doc a vs ns G Y ho hd hcd hmg hobj hints hlen hg => ?_
  have KX := hY w _ Y
  obtain ⟨fd, sp, hb, hF, hS⟩ := F w mg fa _ KX G.T.g hmg
  exact lawG KX (by obtain ⟨mm, hm, _⟩ := (G.T.seer hq).mods; exact ⟨mm, hm⟩) G.T.g G.T.b G.T.builtins G.T.nolimit hg hobj hints (Nat.le_trans hlen (by rw [sizeLine_eq]; decide)) hr (fun base _ _ sm => hF base sm) hb fun H _ h => hS H a ns hlen h
end DI

/-! DI, part 10: a program's code and facts brought together. -/
namespace DI
open L2
open PySem.Spec
open PyProof.Rows hiding St
open PySem

/-- a text by its signs -/
def S (l : List Nat) : Str := ⟨l.toArray⟩

def AllL {α : Type} (p : α → Prop) : List α → Prop
  | [] => True
  | a :: r => p a ∧ AllL p r
theorem allL {α : Type} {p : α → Prop} : ∀ {l : List α}, AllL p l → ∀ a ∈ l, p a
  | [], _, _, h => by cases h
  | b :: r, h, a, ha => by
    rcases List.mem_cons.mp ha with e | ha
    · rw [e]; exact h.1
    · exact allL h.2 a ha
inductive DfAll (P : Program) (w : World) (mg : Str → Option Value) (K : PySem.W.Frag) (t : CK) : List Df → List Addr → Prop
  | nil : DfAll P w mg K t [] []
  | cons {d : Df} {ds : List Df} {f : Addr} {fs : List Addr} (h : ∃ fd, DfOk P w mg K t d f fd) (r : DfAll P w mg K t ds fs) : DfAll P w mg K t (d :: ds) (f :: fs)
theorem DfAll.get {P : Program} {w : World} {mg : Str → Option Value} {K : PySem.W.Frag} {t : CK} {d0 : Df} : ∀ {ds : List Df} {fs : List Addr}, DfAll P w mg K t ds fs → ∀ i, i < ds.length → ∃ fd, DfOk P w mg K t (ds.getD i d0) (fs.getD i 0) fd
  | _, _, .nil, i, h => absurd h (Nat.not_lt_zero i)
  | _, _, .cons h r, 0, _ => h
  | _, _, .cons h r, i + 1, hi => DfAll.get r i (Nat.lt_of_succ_lt_succ hi)
theorem dfOk_mk {P : Program} {w : World} {mg : Str → Option Value} {K : PySem.W.Frag} {t : CK} {d : Df} {st : Stmt} {x qual : Str} {f : Addr} {oc kV doc pm cdv ct : Value} {od an : Option Addr} {osl : Array (Option Value)}
    (l : K.lookup f = some ⟨oc, od, .func (PySem.W.fnOf x qual (defArgs st) (defBody st) (defScope st) .none kV doc pm an cdv ct), osl⟩) (c : PySem.W.codeIn K cdv qual = true)
    (s : C8.scC d.N d.ps (defScope st) = true) (ck : d.body.chk { t with N := d.N, sc := defScope st, blk := false } (defBody st) = true)
    (b : ∀ (kV doc pm : Value) (an : Option Addr) (cdv ct : Value) (us ws : List Value), us.length = d.ps.length - d.kw.length → ws.length = d.kw.length → bindArgs (PySem.W.fnOf x qual (defArgs st) (defBody st) (defScope st) .none kV doc pm an cdv ct) ⟨us, d.kw.zip ws⟩ = pure (d.ps.zip (us ++ ws))) :
    ∃ fd, DfOk P w mg K t d f fd := ⟨_, ⟨x, qual, _, _, _, _, kV, doc, pm, cdv, ct, oc, an, od, osl, rfl, l, c, C8.fnScope_by s, ck, fun s us ws hk h1 h2 => .of_eq (b kV doc pm an cdv ct us ws (by rw [List.length_append] at h2; omega) h1)⟩⟩
/-- every number that is called is one of the defs' -/
def inB (t : CK) (n : Nat) : Bool := (t.calls.all fun f => decide (f < n)) && (t.mths.all fun q => decide (q.2.1 < n)) && t.mks.all fun q => decide (q.2 < n)
theorem inB_of {t : CK} {n f : Nat} (h : inB t n = true) (hf : inFn t f) : f < n := by
  unfold inB at h
  simp only [Bool.and_eq_true, List.all_eq_true, decide_eq_true_eq] at h
  rcases hf with hf | ⟨C, nm, hf⟩ | ⟨C, hf⟩
  · exact h.1.1 f hf
  · exact h.1.2 _ hf
  · exact h.2 _ hf
theorem law_end {P : Program} {w : World} {mg : Str → Option Value} {v : Ev} {t : CK} {Dl : List Df} {d0 : Df} {fl : List Addr} {x : Str} (lawi m : Nat) (B : Base P mg v (fun i => fl.getD i 0) t) (A : DfAll P w mg v.K t Dl fl)
    (hkw : ∀ f, (Dl.getD f d0).kw = t.kw f) (hk0 : (Dl.getD lawi d0).kw = []) (hi : inB t Dl.length = true) (hl : t.calls.contains lawi = true) (hx : (Dl.getD lawi d0).ps = [x]) :
    ∃ fd : FuncData, (∀ (s : Shared) (u : Value), v.K.In s.heap → BindsTo s fd ⟨[u], []⟩ [(x, u)]) ∧
      ∀ base : Heap, SysM base → FnG P w v.K mg base (2 * m) (fl.getD lawi 0) fd [x] (spOf v (fun i => Dl.getD i d0) m lawi) := by
  have hf : inFn t lawi := .inl (by simpa using hl)
  have hd : ∀ f, inFn t f → ∃ fd, DfOk P w mg v.K t (Dl.getD f d0) (fl.getD f 0) fd := fun f h => A.get f (inB_of hi h)
  obtain ⟨fd, h⟩ := hd lawi hf
  have b : Bnd v.K fd (Dl.getD lawi d0).ps (Dl.getD lawi d0).kw := by
    obtain ⟨name, qual, params, body, scope, dV, kV, doc, pm, cdv, ct, oc, an, od, osl, e, lk, hcd, S, ck, b⟩ := h.ex
    subst e
    exact b
  rw [hx, hk0] at b
  refine ⟨fd, fun s u hk => ?_, fun base sm => ?_⟩
  · have q := b s [u] [] hk rfl rfl
    exact q
  · have F := (all_fn (base := base) (D := fun i => Dl.getD i d0) sm B hkw hd m lawi fd h).1
    rw [hx] at F
    exact F
end DI

/-! DI, part 11: worlds. A heap and the addresses whose objects never change again; deep readings; frames. -/
namespace DI
open L2
open PySem.Spec
open PyProof.Rows hiding St
open PySem

structure Wd where
  H : Hp
  S : Addr → Prop
  wf : ∀ b, S b → ∃ o, H b = some o

mutual
/-- x stands for d, all of it sealed -/
inductive Dv (w : Wd) : V → PyData → Prop
  | non : Dv w .non .none
  | bl (b : Bool) : Dv w (.bl b) (.bool b)
  | int (i : Int) : Dv w (.int i) (.int i)
  | str (x : Str) : Dv w (.str x) (.str x)
  | lst {a : Addr} {xs : List V} {ds : List PyData} (s : w.S a) (h : w.H a = some (.lst xs)) (r : Dvs w xs ds) : Dv w (.ref a) (.list ds)
  | tup {a : Addr} {xs : List V} {ds : List PyData} (s : w.S a) (h : w.H a = some (.tup xs)) (r : Dvs w xs ds) : Dv w (.ref a) (.tuple ds)
  | dic {a : Addr} {kvs : List (Key × V)} {ds : List PyData} (s : w.S a) (h : w.H a = some (.dK kvs)) (r : Dvs w (kvs.map (·.2)) ds) : Dv w (.ref a) (.dict ((kvs.map fun kv => kD kv.1).zip ds))
inductive Dvs (w : Wd) : List V → List PyData → Prop
  | nil : Dvs w [] []
  | cons {x : V} {xs : List V} {d : PyData} {ds : List PyData} (h : Dv w x d) (r : Dvs w xs ds) : Dvs w (x :: xs) (d :: ds)
end

/-- from w to w' only what T names was written, or sealed -/
structure Ex (T : List Addr) (w w' : Wd) : Prop where
  op : ∀ b ∈ T, ¬ w.S b
  sub : ∀ b, w.S b → w'.S b
  kp : ∀ b o, w.H b = some o → b ∉ T → w'.H b = some o
  nw : ∀ b, w'.S b → w.S b ∨ w.H b = none ∨ b ∈ T
  al : ∀ b o, w.H b = some o → ∃ o', w'.H b = some o'
/-- an open object -/
structure Op (w : Wd) (a : Addr) (o : HO) : Prop where
  h : w.H a = some o
  n : ¬ w.S a

theorem Ex.refl (w : Wd) : Ex [] w w := ⟨fun _ h => (by cases h), fun _ h => h, fun _ _ h _ => h, fun _ h => .inl h, fun _ o h => ⟨o, h⟩⟩
theorem Ex.free {T : List Addr} {w w' : Wd} (e : Ex T w w') {b : Addr} (h : w'.H b = none) : w.H b = none := by
  cases q : w.H b with
  | none => rfl
  | some o => obtain ⟨o', r⟩ := e.al b o q; rw [h] at r; cases r
theorem Ex.trans {T U : List Addr} {w w1 w2 : Wd} (e : Ex T w w1) (f : Ex U w1 w2) (s : ∀ b ∈ U, b ∈ T ∨ w.H b = none) : Ex T w w2 := by
  refine ⟨e.op, fun b h => f.sub b (e.sub b h), fun b o h n => f.kp b o (e.kp b o h n) fun hb => ?_, fun b h => ?_, fun b o h => ?_⟩
  · rcases s b hb with h' | h'
    · exact n h'
    · rw [h] at h'; cases h'
  · rcases f.nw b h with h | h | h
    · exact e.nw b h
    · exact .inr (.inl (e.free h))
    · rcases s b h with h | h
      · exact .inr (.inr h)
      · exact .inr (.inl h)
  · obtain ⟨o', h⟩ := e.al b o h
    exact f.al b o' h
theorem Ex.more {T U : List Addr} {w w' : Wd} (e : Ex T w w') (s : ∀ b ∈ T, b ∈ U) (n : ∀ b ∈ U, ¬ w.S b) : Ex U w w' :=
  ⟨n, e.sub, fun b o h m => e.kp b o h fun z => m (s b z), fun b h => (e.nw b h).imp id (Or.imp id (s b)), e.al⟩
mutual
theorem Dv.ex {T : List Addr} {w w' : Wd} (e : Ex T w w') : ∀ {d : PyData} {x : V}, Dv w x d → Dv w' x d
  | _, _, .non => .non
  | _, _, .bl b => .bl b
  | _, _, .int i => .int i
  | _, _, .str x => .str x
  | _, _, .lst s h r => .lst (e.sub _ s) (e.kp _ _ h fun hb => e.op _ hb s) (Dvs.ex e r)
  | _, _, .tup s h r => .tup (e.sub _ s) (e.kp _ _ h fun hb => e.op _ hb s) (Dvs.ex e r)
  | _, _, .dic s h r => .dic (e.sub _ s) (e.kp _ _ h fun hb => e.op _ hb s) (Dvs.ex e r)
theorem Dvs.ex {T : List Addr} {w w' : Wd} (e : Ex T w w') : ∀ {ds : List PyData} {xs : List V}, Dvs w xs ds → Dvs w' xs ds
  | _, _, .nil => .nil
  | _, _, .cons h r => .cons (Dv.ex e h) (Dvs.ex e r)
end
theorem Op.ex {T : List Addr} {w w' : Wd} {a : Addr} {o : HO} (e : Ex T w w') (h : Op w a o) (n : a ∉ T) : Op w' a o :=
  ⟨e.kp _ _ h.h n, fun s => by
    rcases e.nw _ s with q | q | q
    · exact h.n q
    · rw [h.h] at q; cases q
    · exact n q⟩
/-- a fresh address is none of the old ones -/
theorem Op.ne {w : Wd} {a b : Addr} {o : HO} (h : Op w a o) (n : w.H b = none) : a ≠ b := by
  intro e; subst e; rw [h.h] at n; cases n

/-! ### making -/
def Wd.put (w : Wd) (a : Addr) (o : HO) : Wd := ⟨upd w.H a o, w.S, fun b h => by
  by_cases e : b = a
  · exact ⟨o, by subst e; exact upd_same⟩
  · rw [upd_ne e]; exact w.wf b h⟩
def Wd.seal (w : Wd) (a : Addr) (o : HO) (h : w.H a = some o) : Wd := ⟨w.H, fun b => w.S b ∨ b = a, fun b q => by
  rcases q with q | q
  · exact w.wf b q
  · subst q; exact ⟨o, h⟩⟩
theorem Wd.notS {w : Wd} {a : Addr} (h : w.H a = none) : ¬ w.S a := fun s => by obtain ⟨o, q⟩ := w.wf a s; rw [h] at q; cases q
theorem ex_new {w : Wd} {p : Addr} {o : HO} (h : w.H p = none) : Ex [] w (w.put p o) :=
  ⟨fun _ z => (by cases z), fun _ z => z, fun b u e _ => by
    show upd w.H p o b = some u
    rw [upd_ne (fun z => by subst z; rw [h] at e; cases e)]; exact e, fun _ z => .inl z, fun b u e => by
    by_cases z : b = p
    · exact ⟨o, by subst z; exact upd_same⟩
    · exact ⟨u, by show upd w.H p o b = some u; rw [upd_ne z]; exact e⟩⟩
theorem op_new {w : Wd} {p : Addr} {o : HO} (h : w.H p = none) : Op (w.put p o) p o := ⟨upd_same, (Wd.notS h : ¬ w.S p)⟩
theorem ex_set {w : Wd} {p : Addr} {o u : HO} (h : Op w p u) : Ex [p] w (w.put p o) :=
  ⟨fun b z => by simp only [List.mem_singleton] at z; subst z; exact h.n, fun _ z => z, fun b u e n => by
    simp only [List.mem_singleton] at n
    show upd w.H p o b = some u
    rw [upd_ne n]; exact e, fun _ z => .inl z, fun b u e => by
    by_cases z : b = p
    · exact ⟨o, by subst z; exact upd_same⟩
    · exact ⟨u, by show upd w.H p o b = some u; rw [upd_ne z]; exact e⟩⟩
theorem op_set {w : Wd} {p : Addr} {o u : HO} (h : Op w p u) : Op (w.put p o) p o := ⟨upd_same, h.n⟩
theorem ex_seal {w : Wd} {p : Addr} {o : HO} (h : Op w p o) : Ex [p] w (w.seal p o h.h) :=
  ⟨fun b z => by simp only [List.mem_singleton] at z; subst z; exact h.n, fun _ z => .inl z, fun b u e _ => e, fun b z => by
    rcases z with z | z
    · exact .inl z
    · exact .inr (.inr (by simp [z])), fun b u e => ⟨u, e⟩⟩
/-- an open list is sealed -/
theorem seal_lst {w : Wd} {p : Addr} {xs : List V} {ds : List PyData} (h : Op w p (.lst xs)) (d : Dvs w xs ds) : ∃ w', w'.H = w.H ∧ Ex [p] w w' ∧ Dv w' (.ref p) (.list ds) :=
  ⟨w.seal p _ h.h, rfl, ex_seal h, .lst (.inr rfl) h.h (d.ex (ex_seal h))⟩

theorem seal_dK {w : Wd} {p : Addr} {kvs : List (Key × V)} {ds : List PyData} (h : Op w p (.dK kvs)) (d : Dvs w (kvs.map (·.2)) ds) : ∃ w', w'.H = w.H ∧ Ex [p] w w' ∧ Dv w' (.ref p) (.dict ((kvs.map fun kv => kD kv.1).zip ds)) :=
  ⟨w.seal p _ h.h, rfl, ex_seal h, .dic (.inr rfl) h.h (d.ex (ex_seal h))⟩
theorem Dv.of_dic {w : Wd} {x : V} {m : List (PyData × PyData)} (h : Dv w x (.dict m)) : ∃ a kvs, x = .ref a ∧ w.S a ∧ w.H a = some (.dK kvs) := by
  cases h with
  | dic s h r => exact ⟨_, _, rfl, s, h⟩
/-- what waits for a made object -/
def KNew (o : HO) (Q : VK) (H : Hp) : Prop := ∀ p, H p = none → Q (.ref p) (upd H p o)
theorem new_op {w : Wd} {o : HO} {Q : VK} (h : ∀ w' p, Ex [] w w' → w.H p = none → Op w' p o → Q (.ref p) w'.H) : KNew o Q w.H := fun p hp => h (w.put p o) p (ex_new hp) hp (op_new hp)
theorem new_tup {w : Wd} {xs : List V} {ds : List PyData} {Q : VK} (d : Dvs w xs ds) (h : ∀ w' x, Ex [] w w' → Dv w' x (.tuple ds) → Q x w'.H) : KNew (.tup xs) Q w.H := fun p hp => by
  have e := ex_new (o := .tup xs) hp
  have o := op_new (o := .tup xs) hp
  have s := ex_seal o
  exact h ((w.put p (.tup xs)).seal p _ o.h) (.ref p) (e.trans s fun b z => .inr (by simp only [List.mem_singleton] at z; subst z; exact hp)) (.tup (.inr rfl) o.h ((d.ex e).ex s))
theorem new_lst {w : Wd} {xs : List V} {ds : List PyData} {Q : VK} (d : Dvs w xs ds) (h : ∀ w' x, Ex [] w w' → Dv w' x (.list ds) → Q x w'.H) : KNew (.lst xs) Q w.H := fun p hp => by
  have e := ex_new (o := .lst xs) hp
  have o := op_new (o := .lst xs) hp
  have s := ex_seal o
  exact h ((w.put p (.lst xs)).seal p _ o.h) (.ref p) (e.trans s fun b z => .inr (by simp only [List.mem_singleton] at z; subst z; exact hp)) (.lst (.inr rfl) o.h ((d.ex e).ex s))

/-! ### deep readings, taken apart -/
theorem Dv.of_int {w : Wd} {x : V} {i : Int} (h : Dv w x (.int i)) : x = .int i := by cases h; rfl
theorem Dv.of_str {w : Wd} {x : V} {i : Str} (h : Dv w x (.str i)) : x = .str i := by cases h; rfl
theorem Dv.of_bl {w : Wd} {x : V} {i : Bool} (h : Dv w x (.bool i)) : x = .bl i := by cases h; rfl
theorem Dv.of_non {w : Wd} {x : V} (h : Dv w x .none) : x = .non := by cases h; rfl
theorem Dv.of_lst {w : Wd} {x : V} {ds : List PyData} (h : Dv w x (.list ds)) : ∃ a xs, x = .ref a ∧ w.S a ∧ w.H a = some (.lst xs) ∧ Dvs w xs ds := by
  cases h with
  | lst s h r => exact ⟨_, _, rfl, s, h, r⟩
theorem Dv.of_tup {w : Wd} {x : V} {ds : List PyData} (h : Dv w x (.tuple ds)) : ∃ a xs, x = .ref a ∧ w.S a ∧ w.H a = some (.tup xs) ∧ Dvs w xs ds := by
  cases h with
  | tup s h r => exact ⟨_, _, rfl, s, h, r⟩
theorem Dvs.length {w : Wd} : ∀ {xs : List V} {ds : List PyData}, Dvs w xs ds → xs.length = ds.length
  | _, _, .nil => rfl
  | _, _, .cons _ r => by simp [r.length]
theorem Dvs.get {w : Wd} : ∀ {xs : List V} {ds : List PyData}, Dvs w xs ds → ∀ {i : Nat} {d : PyData}, ds[i]? = some d → ∃ x, xs[i]? = some x ∧ Dv w x d
  | _, _, .nil, i, d, h => by simp at h
  | _, _, .cons h r, 0, d, e => by simp at e; subst e; exact ⟨_, rfl, h⟩
  | _, _, .cons h r, i + 1, d, e => by simpa using r.get (by simpa using e)
theorem Dvs.get' {w : Wd} : ∀ {xs : List V} {ds : List PyData}, Dvs w xs ds → ∀ {i : Nat} {x : V}, xs[i]? = some x → ∃ d, ds[i]? = some d ∧ Dv w x d
  | _, _, .nil, i, d, h => by simp at h
  | _, _, .cons h r, 0, d, e => by simp at e; subst e; exact ⟨_, rfl, h⟩
  | _, _, .cons h r, i + 1, d, e => by simpa using r.get' (by simpa using e)
theorem Dvs.app {w : Wd} : ∀ {xs ys : List V} {ds es : List PyData}, Dvs w xs ds → Dvs w ys es → Dvs w (xs ++ ys) (ds ++ es)
  | _, _, _, _, .nil, h => h
  | _, _, _, _, .cons h r, h' => .cons h (r.app h')
theorem Dvs.snoc {w : Wd} {xs : List V} {ds : List PyData} {x : V} {d : PyData} (h : Dvs w xs ds) (g : Dv w x d) : Dvs w (xs ++ [x]) (ds ++ [d]) := h.app (.cons g .nil)
theorem Dvs.ints {w : Wd} : ∀ (ns : List Int), Dvs w (ns.map V.int) (ns.map PyData.int)
  | [] => .nil
  | n :: r => .cons (.int n) (Dvs.ints r)
theorem Dvs.of_ints {w : Wd} : ∀ {ns : List Int} {xs : List V}, Dvs w xs (ns.map PyData.int) → xs = ns.map V.int
  | [], _, .nil => rfl
  | n :: r, _, .cons (.int _) q => by simp [Dvs.of_ints q]
theorem Dv.ints {w : Wd} {x : V} {ns : List Int} (h : Dv w x (.list (ns.map .int))) : ∃ a, x = .ref a ∧ w.S a ∧ w.H a = some (.lst (ns.map V.int)) := by
  obtain ⟨a, xs, e, s, h, r⟩ := h.of_lst
  rw [r.of_ints] at h
  exact ⟨a, e, s, h⟩
mutual
theorem Dv.dp {K : PySem.W.Frag} {w : Wd} : ∀ {d : PyData} {x : V}, Dv w x d → Dq K w.H x d
  | _, _, .non => .non
  | _, _, .bl b => .bl b
  | _, _, .int b => .int b
  | _, _, .str b => .str b
  | _, _, .lst _ h r => .lst (.inl (.inl h)) r.dp
  | _, _, .tup _ h r => .tup (.inl (.inl h)) r.dp
  | _, _, .dic _ h r => .dic h r.dp
theorem Dvs.dp {K : PySem.W.Frag} {w : Wd} : ∀ {ds : List PyData} {xs : List V}, Dvs w xs ds → DqAll K w.H xs ds
  | _, _, .nil => .nil
  | _, _, .cons h r => .cons h.dp r.dp
end
/-- an open list, read -/
theorem Op.dp {K : PySem.W.Frag} {w : Wd} {a : Addr} {xs : List V} {ds : List PyData} (o : Op w a (.lst xs)) (r : Dvs w xs ds) : Dq K w.H (.ref a) (.list ds) := .lst (.inl (.inl o.h)) r.dp
theorem sqL {K : PySem.W.Frag} {w : Wd} {a : Addr} {xs : List V} (h : w.H a = some (.lst xs)) : SqL K w.H a xs := .inl (.inl h)
theorem sqT {K : PySem.W.Frag} {w : Wd} {a : Addr} {xs : List V} (h : w.H a = some (.tup xs)) : SqT K w.H a xs := .inl (.inl h)
end DI

/-! DI, part 12: the reading, step by step. -/
namespace DI
open L2
open PySem.Spec
open PyProof.Rows hiding St
open PySem

/-- the environment inside a def's body, n calls deep -/
def evAt (v : Ev) (D : Nat → Df) (n : Nat) : Ev := { v with sp := spOf v D n }
theorem evAt_K (v : Ev) (D : Nat → Df) (n : Nat) : (evAt v D n).K = v.K := rfl
section
variable {v : Ev} {D : Nat → Df} {n : Nat} {W : WX} {σ : St} {H : Hp} {Q : VK} {nx bk ct : St → Hp → Prop} {rt : VK}
theorem r_in {f : Nat} {vs : List V} {E : XK} {b : Sms} {N : List Str} {ps kw : List Str} {σ : St} (e : D f = ⟨ps, N, b, kw⟩) (hl : vs.length = ps.length) (hs : start N vs = σ)
    (h : b.den (evAt v D n) (fun c d _ H' => E c d H') ⟨fun _ H' => Q .non H', Q, fun _ _ => False, fun _ _ => False⟩ σ H) : spOf v D (n + 1) f vs H Q E := by
  subst hs
  show vs.length = (D f).ps.length ∧ _
  rw [e]
  exact ⟨hl, h⟩

/-! ### statements -/
/-- what stands behind a statement, not yet looked at -/
def Nx (v : Ev) (r : Sms) (W : WX) (nx : St → Hp → Prop) (rt : VK) (bk ct : St → Hp → Prop) : St → Hp → Prop := fun σ H => r.den v W ⟨nx, rt, bk, ct⟩ σ H
theorem r_nx {r : Sms} (h : r.den v W ⟨nx, rt, bk, ct⟩ σ H) : Nx v r W nx rt bk ct σ H := h
theorem r_one {s : Sm} (h : s.den v W ⟨nx, rt, bk, ct⟩ σ H) : Sms.den v (.cons s .nil) W ⟨nx, rt, bk, ct⟩ σ H := h
theorem r_sq {s : Sm} {r : Sms} (h : s.den v W ⟨Nx v r W nx rt bk ct, rt, bk, ct⟩ σ H) : Sms.den v (.cons s r) W ⟨nx, rt, bk, ct⟩ σ H := h
theorem r_nil (h : nx σ H) : Sms.den v .nil W ⟨nx, rt, bk, ct⟩ σ H := h
/-- a target waits for its value -/
def KTg (v : Ev) (g : Tg) (W : WX) (σ : St) (P : St → Hp → Prop) : VK := fun x H => g.den v W x σ H P
theorem r_asg {g : Tg} {e : Xp} (h : e.den v W σ H (KTg v g W σ nx)) : Sm.den v (.asg g e) W ⟨nx, rt, bk, ct⟩ σ H := h
theorem r_asl {i : Nat} {el : Xp} {tg : Tg} {it : Sq} {ifs : Tto} {own : List Nat} (h : (Xp.lc el tg it ifs own).den v W σ H (KTg v (.nm i) W σ nx)) : Sm.den v (.asl i el tg it ifs own) W ⟨nx, rt, bk, ct⟩ σ H := h
theorem r_exp {e : Xp} (h : e.den v W σ H (fun _ H1 => nx σ H1)) : Sm.den v (.exp e) W ⟨nx, rt, bk, ct⟩ σ H := h
theorem r_ret {e : Xp} (h : e.den v W σ H rt) : Sm.den v (.ret e) W ⟨nx, rt, bk, ct⟩ σ H := h
theorem r_retN (h : rt .non H) : Sm.den v .retN W ⟨nx, rt, bk, ct⟩ σ H := h
theorem r_pass (h : nx σ H) : Sm.den v .pass W ⟨nx, rt, bk, ct⟩ σ H := h
theorem r_brk (h : bk σ H) : Sm.den v .brk W ⟨nx, rt, bk, ct⟩ σ H := h
theorem r_cnt (h : ct σ H) : Sm.den v .cnt W ⟨nx, rt, bk, ct⟩ σ H := h
/-- two ways -/
def KIf (v : Ev) (a b : Sms) (W : WX) (D : Ends) (σ : St) : Bool → Hp → Prop := fun c H => if c = true then a.den v W D σ H else b.den v W D σ H
theorem r_ite {t : Tt} {a b : Sms} {D : Ends} (h : t.den v W σ H (KIf v a b W D σ)) : Sm.den v (.ite t a b) W D σ H := h
theorem kif_t {a b : Sms} {D : Ends} (h : a.den v W D σ H) : KIf v a b W D σ true H := h
theorem kif_f {a b : Sms} {D : Ends} (h : b.den v W D σ H) : KIf v a b W D σ false H := h
theorem kif_d {a b : Sms} {D : Ends} {p : Prop} [Decidable p] (ht : p → a.den v W D σ H) (hf : ¬ p → b.den v W D σ H) : KIf v a b W D σ (decide p) H := by
  by_cases h : p
  · rw [decide_eq_true h]; exact ht h
  · rw [decide_eq_false h]; exact hf h
theorem kif_n {a b : Sms} {D : Ends} {p : Prop} [Decidable p] (ht : ¬ p → a.den v W D σ H) (hf : p → b.den v W D σ H) : KIf v a b W D σ (!decide p) H := by
  by_cases h : p
  · rw [decide_eq_true h]; exact hf h
  · rw [decide_eq_false h]; exact ht h
theorem kif_b {a b : Sms} {D : Ends} {c : Bool} (ht : c = true → a.den v W D σ H) (hf : c = false → b.den v W D σ H) : KIf v a b W D σ c H := by
  cases c with
  | true => exact ht rfl
  | false => exact hf rfl
/-- op= -/
def KAu (K : PySem.W.Frag) (i : Nat) (op : Operator) (x : V) (P : St → Hp → Prop) (σ : St) : VK := fun y H1 => rAug K op x y H1 fun z H2 => P (σ.set i (some z)) H2
def KAg (o : Option (Option V)) (v : Ev) (i : Nat) (op : Operator) (e : Xp) (W : WX) (P : St → Hp → Prop) (σ : St) (H : Hp) : Prop := match o with
  | some (some x) => e.den v W σ H (KAu v.K i op x P σ)
  | _ => False
theorem r_aug {i : Nat} {op : Operator} {e : Xp} (h : KAg σ[i]? v i op e W nx σ H) : Sm.den v (.aug i op e) W ⟨nx, rt, bk, ct⟩ σ H := by
  show tAugA i _ _ _ σ H
  unfold tAugA
  revert h
  unfold KAg
  cases σ[i]? with
  | none => exact id
  | some o => cases o with
    | none => exact id
    | some x => exact id
theorem k_ag {i : Nat} {op : Operator} {e : Xp} {P : St → Hp → Prop} {x : V} (h : e.den v W σ H (KAu v.K i op x P σ)) : KAg (some (some x)) v i op e W P σ H := h
theorem k_aug_add {K : PySem.W.Frag} {i : Nat} {a b : Int} {P : St → Hp → Prop} (h : P (σ.set i (some (.int (a + b)))) H) : KAu K i .Add (.int a) P σ (.int b) H := h
theorem k_aug_adds {K : PySem.W.Frag} {i : Nat} {a b : Str} {P : St → Hp → Prop} (hl : a.length + b.length ≤ sizeLine) (h : P (σ.set i (some (.str (a ++ b)))) H) : KAu K i .Add (.str a) P σ (.str b) H := ⟨hl, h⟩
theorem k_aug_sub {K : PySem.W.Frag} {i : Nat} {a b : Int} {P : St → Hp → Prop} (h : P (σ.set i (some (.int (a - b)))) H) : KAu K i .Sub (.int a) P σ (.int b) H := h

/-! ### targets -/
theorem k_tg {g : Tg} {P : St → Hp → Prop} {x : V} (h : g.den v W x σ H P) : KTg v g W σ P x H := h
theorem k_nm {i : Nat} {P : St → Hp → Prop} {x : V} (h : P (σ.set i (some x)) H) : KTg v (.nm i) W σ P x H := h
theorem g_nm {i : Nat} {P : St → Hp → Prop} {x : V} (h : P (σ.set i (some x)) H) : Tg.den v (.nm i) W x σ H P := h
def KTs (v : Ev) (gs : Tgs) (W : WX) (P : St → Hp → Prop) : List V → St → Hp → Prop := fun xs σ H => gs.den v W xs σ H P
theorem g_tup {w : Wd} {gs : Tgs} {P : St → Hp → Prop} {x : V} {ds : List PyData} (hx : Dv w x (.tuple ds)) (hn : ds.length = gs.len) (h : ∀ xs, Dvs w xs ds → KTs v gs W P xs σ w.H) : Tg.den v (.tup gs) W x σ w.H P := by
  obtain ⟨a, xs, e, s, q, r⟩ := hx.of_tup
  exact .inl ⟨a, xs, e, sqT q, by rw [r.length, hn], h xs r⟩
theorem g_lst {w : Wd} {gs : Tgs} {P : St → Hp → Prop} {x : V} {ds : List PyData} (hx : Dv w x (.list ds)) (hn : ds.length = gs.len) (h : ∀ xs, Dvs w xs ds → KTs v gs W P xs σ w.H) : Tg.den v (.tup gs) W x σ w.H P := by
  obtain ⟨a, xs, e, s, q, r⟩ := hx.of_lst
  exact .inr ⟨a, xs, e, sqL q, by rw [r.length, hn], h xs r⟩
theorem g_nil {P : St → Hp → Prop} (h : P σ H) : KTs v .nil W P [] σ H := ⟨rfl, h⟩
theorem g_cons {g : Tg} {gs : Tgs} {P : St → Hp → Prop} {x : V} {xs : List V} (h : g.den v W x σ H (KTs v gs W P xs)) : KTs v (.cons g gs) W P (x :: xs) σ H := ⟨x, xs, rfl, h⟩
theorem g_cons_nm {i : Nat} {gs : Tgs} {P : St → Hp → Prop} {x : V} {xs : List V} (h : KTs v gs W P xs (σ.set i (some x)) H) : KTs v (.cons (.nm i) gs) W P (x :: xs) σ H := ⟨x, xs, rfl, h⟩
def KSub (v : Ev) (i : Xp) (W : WX) (P : St → Hp → Prop) (x : V) (σ : St) : VK := fun o H => i.den v W σ H fun y H2 => rSetA o y x H2 fun H3 => P σ H3
def KSet (P : St → Hp → Prop) (o x : V) (σ : St) : VK := fun y H => rSetA o y x H fun H3 => P σ H3
theorem g_sub {o i : Xp} {P : St → Hp → Prop} {x : V} (h : o.den v W σ H (KSub v i W P x σ)) : Tg.den v (.sub o i) W x σ H P := h
theorem k_sub {i : Xp} {P : St → Hp → Prop} {o x : V} (h : i.den v W σ H (KSet P o x σ)) : KSub v i W P x σ o H := h
theorem k_set_lst {w : Wd} {a : Addr} {xs : List V} {k : Int} {j : Nat} {x : V} {P : St → Hp → Prop} (o : Op w a (.lst xs)) (hj : ixN xs.length k = some j) (h : ∀ w', Ex [a] w w' → Op w' a (.lst (xs.set j x)) → P σ w'.H) : KSet P (.ref a) x σ (.int k) w.H :=
  RSetR.lst o.h rfl hj (h (w.put a _) (ex_set o) (op_set o))
theorem k_set_dK {w : Wd} {a : Addr} {kvs : List (Key × V)} {k : Key} {x y : V} {P : St → Hp → Prop} (o : Op w a (.dK kvs)) (hy : y = kV k) (hl : kvs.length < sizeLine) (h : ∀ w', Ex [a] w w' → Op w' a (.dK (putK kvs k x)) → P σ w'.H) : KSet P (.ref a) x σ y w.H := by
  subst hy
  exact RSetR.dict (DPut.k o.h hl) (h (w.put a _) (ex_set o) (op_set o))
theorem k_set_dT {w : Wd} {a b : Addr} {kvs : List (List Key × V)} {k : List Key} {x : V} {P : St → Hp → Prop} (o : Op w a (.dT kvs)) (hy : w.H b = some (.tup (k.map kV))) (hl : kvs.length < sizeLine) (h : ∀ w', Ex [a] w w' → Op w' a (.dT (putK kvs k x)) → P σ w'.H) : KSet P (.ref a) x σ (.ref b) w.H :=
  RSetR.dict (DPut.t o.h hy hl) (h (w.put a _) (ex_set o) (op_set o))

/-! ### expressions -/
def KV (o : Option (Option V)) (Q : VK) (H : Hp) : Prop := match o with
  | some (some x) => Q x H
  | _ => False
theorem e_v {i : Nat} (h : KV σ[i]? Q H) : Xp.den v (.v i) W σ H Q := h
theorem k_v {x : V} (h : Q x H) : KV (some (some x)) Q H := h
theorem e_c {x : V} (h : Q x H) : Xp.den v (.c x) W σ H Q := h
theorem e_g {i : Nat} (h : Q (v.gv i) H) : Xp.den v (.g i) W σ H Q := h
theorem e_ty {s : String} (h : Q (.ty s) H) : Xp.den v (.ty s) W σ H Q := h
def KB1 (v : Ev) (op : Operator) (b : Xp) (W : WX) (σ : St) (Q : VK) : VK := fun x H => b.den v W σ H fun y H2 => rBin v.K op x y H2 Q
def KB2 (K : PySem.W.Frag) (op : Operator) (x : V) (Q : VK) : VK := fun y H => rBin K op x y H Q
theorem e_bin {op : Operator} {a b : Xp} (h : a.den v W σ H (KB1 v op b W σ Q)) : Xp.den v (.bin op a b) W σ H Q := h
theorem k_b1 {op : Operator} {b : Xp} {x : V} (h : b.den v W σ H (KB2 v.K op x Q)) : KB1 v op b W σ Q x H := h
section
variable {K : PySem.W.Frag} {i j : Int}
theorem o_add (h : Q (.int (i + j)) H) : KB2 K .Add (.int i) Q (.int j) H := h
theorem o_sub (h : Q (.int (i - j)) H) : KB2 K .Sub (.int i) Q (.int j) H := h
theorem o_mul (c : CMul i j) (h : Q (.int (i * j)) H) : KB2 K .Mult (.int i) Q (.int j) H := ⟨c, h⟩
theorem o_fdv (c : 0 < j) (c2 : j.natAbs.log2 < 9000) (h : Q (.int (i / j)) H) : KB2 K .FloorDiv (.int i) Q (.int j) H := ⟨⟨c, c2⟩, h⟩
theorem o_mod (c : 0 < j) (h : Q (.int (i % j)) H) : KB2 K .Mod (.int i) Q (.int j) H := ⟨c, h⟩
theorem o_pow (c : CPow i j) (h : Q (.int (i ^ j.toNat)) H) : KB2 K .Pow (.int i) Q (.int j) H := ⟨c, h⟩
theorem o_shl (c : CPow i j ∨ CShl i j) (h : Q (.int (i * 2 ^ j.toNat)) H) : KB2 K .LShift (.int i) Q (.int j) H := ⟨c, h⟩
theorem o_shr (c : 0 ≤ j) (h : Q (.int (i / 2 ^ j.toNat)) H) : KB2 K .RShift (.int i) Q (.int j) H := ⟨c, h⟩
theorem o_and (h : Q (.int (Builtin.bitAnd i j)) H) : KB2 K .BitAnd (.int i) Q (.int j) H := h
theorem o_or (h : Q (.int (Builtin.bitOr i j)) H) : KB2 K .BitOr (.int i) Q (.int j) H := h
theorem o_xor (h : Q (.int (Builtin.bitXor i j)) H) : KB2 K .BitXor (.int i) Q (.int j) H := h
theorem o_adds {a b : Str} (c : a.length + b.length ≤ sizeLine) (h : Q (.str (a ++ b)) H) : KB2 K .Add (.str a) Q (.str b) H := ⟨c, h⟩
/-- list + list, both open: an open list -/
theorem o_addl {w : Wd} {a b : Addr} {xs ys : List V} (ha : w.H a = some (.lst xs)) (hb : w.H b = some (.lst ys)) (c : xs.length + ys.length ≤ sizeLine) (h : KNew (.lst (xs ++ ys)) Q w.H) : KB2 K .Add (.ref a) Q (.ref b) w.H :=
  RCat.lst ha hb c h
theorem o_addL {w : Wd} {x y : V} {ds es : List PyData} (ha : Dv w x (.list ds)) (hb : Dv w y (.list es)) (c : ds.length + es.length ≤ sizeLine) (h : ∀ w' z, Ex [] w w' → Dv w' z (.list (ds ++ es)) → Q z w'.H) : KB2 K .Add x Q y w.H := by
  obtain ⟨a, xs, rfl, s, ha, r⟩ := ha.of_lst
  obtain ⟨b, ys, rfl, t, hb, u⟩ := hb.of_lst
  exact RCat.lst ha hb (by rw [r.length, u.length]; exact c) (new_lst (r.app u) h)
theorem o_addT {w : Wd} {x y : V} {ds es : List PyData} (ha : Dv w x (.tuple ds)) (hb : Dv w y (.tuple es)) (c : ds.length + es.length ≤ sizeLine) (h : ∀ w' z, Ex [] w w' → Dv w' z (.tuple (ds ++ es)) → Q z w'.H) : KB2 K .Add x Q y w.H := by
  have ha0 := ha; have hb0 := hb
  obtain ⟨a, xs, rfl, s, ha, r⟩ := ha.of_tup
  obtain ⟨b, ys, rfl, t, hb, u⟩ := hb.of_tup
  refine RCat.tup (sqT ha) (sqT hb) (by rw [r.length, u.length]; exact c) (fun e => ?_) (fun _ e => ?_) fun _ _ => new_tup (r.app u) h
  · subst e
    have : ds = [] := by cases r; rfl
    subst this
    exact h w _ (Ex.refl w) hb0
  · subst e
    have : es = [] := by cases u; rfl
    subst this
    exact h w _ (Ex.refl w) (by simpa using ha0)
/-- [x] * k -/
theorem o_rep {w : Wd} {a : Addr} {xs : List V} {k : Int} (ha : w.H a = some (.lst xs)) (h1 : -(2 ^ 63) ≤ k) (h2 : k < 2 ^ 63) (c : xs.length * k.toNat ≤ sizeLine) (h : KNew (.lst (List.replicate k.toNat xs).flatten) Q w.H) : KB2 K .Mult (.ref a) Q (.int k) w.H :=
  RRep.lst ha h1 h2 c h
end
theorem e_neg {a : Xp} (h : a.den v W σ H (fun x H1 => rU (fun i => .int (-i)) x H1 Q)) : Xp.den v (.neg a) W σ H Q := h
theorem k_neg {i : Int} (h : Q (.int (-i)) H) : rU (fun i => .int (-i)) (.int i) H Q := ⟨i, rfl, h⟩
def KC1 (v : Ev) (op : CmpOp) (b : Xp) (W : WX) (σ : St) (P : Bool → Hp → Prop) : VK := fun x H => b.den v W σ H fun y H2 => rCmpB v.K op x y H2 fun c => P c H2
def KC2 (K : PySem.W.Frag) (op : CmpOp) (x : V) (P : Bool → Hp → Prop) : VK := fun y H => rCmpB K op x y H fun c => P c H
def KBl (Q : VK) : Bool → Hp → Prop := fun c H => Q (.bl c) H
theorem k_bl {c : Bool} (h : Q (.bl c) H) : KBl Q c H := h
theorem e_cmp {op : CmpOp} {a b : Xp} (h : a.den v W σ H (KC1 v op b W σ (KBl Q))) : Xp.den v (.cmp op a b) W σ H Q := h
theorem k_c1 {op : CmpOp} {b : Xp} {x : V} {P : Bool → Hp → Prop} (h : b.den v W σ H (KC2 v.K op x P)) : KC1 v op b W σ P x H := h
section
variable {K : PySem.W.Frag} {i j : Int} {P : Bool → Hp → Prop}
theorem c_eq (h : P (decide (i = j)) H) : KC2 K .Eq (.int i) P (.int j) H := h
theorem c_ne (h : P (!decide (i = j)) H) : KC2 K .NotEq (.int i) P (.int j) H := h
theorem c_lt (h : P (decide (i < j)) H) : KC2 K .Lt (.int i) P (.int j) H := h
theorem c_le (h : P (decide (i ≤ j)) H) : KC2 K .LtE (.int i) P (.int j) H := h
theorem c_gt (h : P (decide (j < i)) H) : KC2 K .Gt (.int i) P (.int j) H := h
theorem c_ge (h : P (decide (j ≤ i)) H) : KC2 K .GtE (.int i) P (.int j) H := h
theorem c_eqs {a b : Str} (h : P (decide (a = b)) H) : KC2 K .Eq (.str a) P (.str b) H := h
theorem c_nes {a b : Str} (h : P (!decide (a = b)) H) : KC2 K .NotEq (.str a) P (.str b) H := h
theorem c_eqb {a b : Bool} (h : P (decide (a = b)) H) : KC2 K .Eq (.bl a) P (.bl b) H := h
theorem c_neb {a b : Bool} (h : P (!decide (a = b)) H) : KC2 K .NotEq (.bl a) P (.bl b) H := h
theorem rEqB_of {x y : V} {Q : Bool → Prop} (h : REq K x y H Q) : rEqB K x y H Q := by
  unfold rEqB
  split
  all_goals try exact h
  all_goals
    cases h with
    | scal _ q => simpa using q
    | deep hd he _ _ q => cases hd; cases he; simpa [PyData.eqv, beq_iff_eq, ← Bool.beq_eq_decide_eq] using q
theorem c_eqD {w : Wd} {x y : V} {d e : PyData} (hd : Dq K w.H x d) (he : Dq K w.H y e) (sd : SeqAt.shaped d = true) (se : SeqAt.shaped e = true) (h : P (PyData.eqv d e) w.H) : KC2 K .Eq x P y w.H := rEqB_of (Q := fun c => P c w.H) (.deep hd he sd se h)
theorem c_neD {w : Wd} {x y : V} {d e : PyData} (hd : Dq K w.H x d) (he : Dq K w.H y e) (sd : SeqAt.shaped d = true) (se : SeqAt.shaped e = true) (h : P (!PyData.eqv d e) w.H) : KC2 K .NotEq x P y w.H := rEqB_of (Q := fun c => P (!c) w.H) (.deep hd he sd se h)
theorem c_isN {x : V} (h : P (decide (x = .non)) H) : KC2 K .Is x P .non H := .inl ⟨rfl, h⟩
theorem c_isnN {x : V} (h : P (!decide (x = .non)) H) : KC2 K .IsNot x P .non H := .inl ⟨rfl, h⟩
theorem c_isB {a b : Bool} (h : P (decide (a = b)) H) : KC2 K .Is (.bl a) P (.bl b) H := .inr ⟨a, b, rfl, rfl, h⟩
theorem c_isnB {a b : Bool} (h : P (!decide (a = b)) H) : KC2 K .IsNot (.bl a) P (.bl b) H := .inr ⟨a, b, rfl, rfl, h⟩
theorem c_in_dK {w : Wd} {a : Addr} {kvs : List (Key × V)} {k : Key} {y : V} (o : w.H a = some (.dK kvs)) (hy : y = kV k) (h : P (valV kvs k).isSome w.H) : KC2 K .In y P (.ref a) w.H := by subst hy; exact RIn.dict (DGet.k o) h
theorem c_nin_dK {w : Wd} {a : Addr} {kvs : List (Key × V)} {k : Key} {y : V} (o : w.H a = some (.dK kvs)) (hy : y = kV k) (h : P (!(valV kvs k).isSome) w.H) : KC2 K .NotIn y P (.ref a) w.H := by subst hy; exact RIn.dict (DGet.k o) h
theorem c_in_l {w : Wd} {a : Addr} {xs : List V} {y : V} (o : w.H a = some (.lst xs)) (fx : flatV y = true) (fs : xs.all flatV = true) (h : P (inV y xs) w.H) : KC2 K .In y P (.ref a) w.H := RIn.flat (.inl (sqL o)) fx fs h
theorem c_nin_l {w : Wd} {a : Addr} {xs : List V} {y : V} (o : w.H a = some (.lst xs)) (fx : flatV y = true) (fs : xs.all flatV = true) (h : P (!inV y xs) w.H) : KC2 K .NotIn y P (.ref a) w.H := RIn.flat (.inl (sqL o)) fx fs h
end
def KAnd (v : Ev) (b : Xp) (W : WX) (σ : St) (Q : VK) : VK := fun x H => match x with
  | .bl k => if k = true then b.den v W σ H Q else Q (.bl false) H
  | _ => False
def KOr (v : Ev) (b : Xp) (W : WX) (σ : St) (Q : VK) : VK := fun x H => match x with
  | .bl k => if k = true then Q (.bl true) H else b.den v W σ H Q
  | _ => False
theorem e_and {a b : Xp} (h : a.den v W σ H (KAnd v b W σ Q)) : Xp.den v (.and a b) W σ H Q := h
theorem e_or {a b : Xp} (h : a.den v W σ H (KOr v b W σ Q)) : Xp.den v (.or a b) W σ H Q := h
theorem k_and {b : Xp} {c : Bool} (ht : c = true → b.den v W σ H Q) (hf : c = false → Q (.bl false) H) : KAnd v b W σ Q (.bl c) H := by
  cases c with
  | true => exact ht rfl
  | false => exact hf rfl
theorem k_or {b : Xp} {c : Bool} (ht : c = true → Q (.bl true) H) (hf : c = false → b.den v W σ H Q) : KOr v b W σ Q (.bl c) H := by
  cases c with
  | true => exact ht rfl
  | false => exact hf rfl
theorem e_not {a : Xp} (h : a.den v W σ H (fun x H1 => match x with | .bl b => Q (.bl (!b)) H1 | _ => False)) : Xp.den v (.not a) W σ H Q := h
def KIx (v : Ev) (a b : Xp) (W : WX) (Q : VK) (σ : St) : Bool → Hp → Prop := fun c H => if c = true then a.den v W σ H Q else b.den v W σ H Q
theorem e_ite {t : Tt} {a b : Xp} (h : t.den v W σ H (KIx v a b W Q σ)) : Xp.den v (.ite t a b) W σ H Q := h
theorem k_ix {a b : Xp} {c : Bool} (ht : c = true → a.den v W σ H Q) (hf : c = false → b.den v W σ H Q) : KIx v a b W Q σ c H := by
  cases c with
  | true => exact ht rfl
  | false => exact hf rfl
/-! argument lists -/
def KAs (v : Ev) (r : Xps) (W : WX) (σ : St) (P : List V → Hp → Prop) : VK := fun x H => r.den v W σ H fun xs H2 => P (x :: xs) H2
def KCn (x : V) (P : List V → Hp → Prop) : List V → Hp → Prop := fun xs H => P (x :: xs) H
theorem a_nil {P : List V → Hp → Prop} (h : P [] H) : Xps.den v .nil W σ H P := h
theorem a_cons {e : Xp} {r : Xps} {P : List V → Hp → Prop} (h : e.den v W σ H (KAs v r W σ P)) : Xps.den v (.cons e r) W σ H P := h
theorem k_as {r : Xps} {P : List V → Hp → Prop} {x : V} (h : r.den v W σ H (KCn x P)) : KAs v r W σ P x H := h
theorem k_cn {P : List V → Hp → Prop} {x : V} {xs : List V} (h : P (x :: xs) H) : KCn x P xs H := h
def KTup (Q : VK) : List V → Hp → Prop := fun xs H1 => xs.length ≤ sizeLine ∧ KNew (.tup xs) Q H1
def KLst (Q : VK) : List V → Hp → Prop := fun xs H1 => xs.length ≤ sizeLine ∧ KNew (.lst xs) Q H1
theorem e_tup {es : Xps} (h : es.den v W σ H (KTup Q)) : Xp.den v (.tup es) W σ H Q := h
theorem e_lst {es : Xps} (h : es.den v W σ H (KLst Q)) : Xp.den v (.lst es) W σ H Q := h
theorem small_len {xs : List V} (h : xs.length ≤ 1000 := by decide) : xs.length ≤ sizeLine := by rw [sizeLine_eq]; omega
theorem k_tup {w : Wd} {xs : List V} {ds : List PyData} (hl : xs.length ≤ 1000) (d : Dvs w xs ds) (h : ∀ w' x, Ex [] w w' → Dv w' x (.tuple ds) → Q x w'.H) : KTup Q xs w.H := ⟨small_len hl, new_tup d h⟩
theorem k_lst {w : Wd} {xs : List V} {ds : List PyData} (hl : xs.length ≤ 1000) (d : Dvs w xs ds) (h : ∀ w' x, Ex [] w w' → Dv w' x (.list ds) → Q x w'.H) : KLst Q xs w.H := ⟨small_len hl, new_lst d h⟩
theorem k_lstO {w : Wd} {xs : List V} (hl : xs.length ≤ 1000) (h : ∀ w' p, Ex [] w w' → w.H p = none → Op w' p (.lst xs) → Q (.ref p) w'.H) : KLst Q xs w.H := ⟨small_len hl, new_op h⟩
theorem e_d0 (h : KNew (.dK []) Q H) : Xp.den v .dct0 W σ H Q := h
theorem e_dT0 (h : KNew (.dT []) Q H) : Xp.den v .dctT0 W σ H Q := h
/-! subscripts -/
def KI1 (v : Ev) (b : Xp) (W : WX) (σ : St) (Q : VK) : VK := fun x H => b.den v W σ H fun y H2 => rIxA v.K x y H2 Q
def KI2 (K : PySem.W.Frag) (x : V) (Q : VK) : VK := fun y H => rIxA K x y H Q
theorem e_ix {a b : Xp} (h : a.den v W σ H (KI1 v b W σ Q)) : Xp.den v (.ix a b) W σ H Q := h
theorem k_i1 {b : Xp} {x : V} (h : b.den v W σ H (KI2 v.K x Q)) : KI1 v b W σ Q x H := h
theorem atI_pos {α : Type} {xs : List α} {i : Int} {y : α} (hi : 0 ≤ i) (e : xs[i.toNat]? = some y) : atI xs i = some y := by
  have hl : i.toNat < xs.length := by
    rcases Nat.lt_or_ge i.toNat xs.length with h | h
    · exact h
    · rw [List.getElem?_eq_none h] at e; cases e
  unfold atI ixN
  rw [if_pos hi, if_pos (by omega)]
  exact e
theorem atI_neg {α : Type} {xs : List α} {i : Int} {y : α} (hi : i < 0) (hl : 0 ≤ i + xs.length) (e : xs[(i + xs.length).toNat]? = some y) : atI xs i = some y := by
  unfold atI ixN
  rw [if_neg (by omega), if_pos (by omega)]
  exact e
section
variable {K : PySem.W.Frag} {w : Wd}
theorem i_L {x : V} {ds : List PyData} {i : Int} {d : PyData} (hx : Dv w x (.list ds)) (hi : 0 ≤ i) (hd : ds[i.toNat]? = some d) (h : ∀ y, Dv w y d → Q y w.H) : KI2 K x Q (.int i) w.H := by
  obtain ⟨a, xs, rfl, s, e, r⟩ := hx.of_lst
  obtain ⟨y, hy, q⟩ := r.get hd
  exact RIxR.lst (sqL e) rfl (atI_pos hi hy) (h y q)
theorem i_T {x : V} {ds : List PyData} {i : Int} {d : PyData} (hx : Dv w x (.tuple ds)) (hi : 0 ≤ i) (hd : ds[i.toNat]? = some d) (h : ∀ y, Dv w y d → Q y w.H) : KI2 K x Q (.int i) w.H := by
  obtain ⟨a, xs, rfl, s, e, r⟩ := hx.of_tup
  obtain ⟨y, hy, q⟩ := r.get hd
  exact RIxR.tup (sqT e) rfl (atI_pos hi hy) (h y q)
theorem i_Li {x : V} {ds : List PyData} {i : Int} {k : Int} (hx : Dv w x (.list ds)) (hi : 0 ≤ i) (hd : ds[i.toNat]? = some (.int k)) (h : Q (.int k) w.H) : KI2 K x Q (.int i) w.H := i_L hx hi hd fun y q => by rw [q.of_int]; exact h
theorem i_Ti {x : V} {ds : List PyData} {i : Int} {k : Int} (hx : Dv w x (.tuple ds)) (hi : 0 ≤ i) (hd : ds[i.toNat]? = some (.int k)) (h : Q (.int k) w.H) : KI2 K x Q (.int i) w.H := i_T hx hi hd fun y q => by rw [q.of_int]; exact h
theorem i_O {a : Addr} {xs : List V} {i : Int} {y : V} (e : w.H a = some (.lst xs)) (hi : 0 ≤ i) (hy : xs[i.toNat]? = some y) (h : Q y w.H) : KI2 K (.ref a) Q (.int i) w.H := RIxR.lst (sqL e) rfl (atI_pos hi hy) h
theorem i_On {a : Addr} {xs : List V} {i : Int} {y : V} (e : w.H a = some (.lst xs)) (hi : i < 0) (hl : 0 ≤ i + xs.length) (hy : xs[(i + xs.length).toNat]? = some y) (h : Q y w.H) : KI2 K (.ref a) Q (.int i) w.H := RIxR.lst (sqL e) rfl (atI_neg hi hl hy) h
theorem i_dK {a : Addr} {kvs : List (Key × V)} {k : Key} {y z : V} (o : w.H a = some (.dK kvs)) (hy : y = kV k) (hz : valV kvs k = some z) (h : Q z w.H) : KI2 K (.ref a) Q y w.H := by
  subst hy
  exact RIxR.dict (by have := DGet.k (k := k) o; rwa [hz] at this) h
/-! len and its like -/
def KBf (K : PySem.W.Frag) (b : Bf) (Q : VK) : List V → Hp → Prop := fun vs H => rBf K b vs H Q
theorem e_bc {b : Bf} {es : Xps} (h : es.den v W σ H (KBf v.K b Q)) : Xp.den v (.bc b es) W σ H Q := h
theorem f_lenL {x : V} {ds : List PyData} (hx : Dv w x (.list ds)) (h : Q (.int ds.length) w.H) : KBf K .len Q [x] w.H := by
  obtain ⟨a, xs, rfl, s, e, r⟩ := hx.of_lst
  exact RLen.lst (sqL e) (by rw [r.length]; exact h)
theorem f_lenT {x : V} {ds : List PyData} (hx : Dv w x (.tuple ds)) (h : Q (.int ds.length) w.H) : KBf K .len Q [x] w.H := by
  obtain ⟨a, xs, rfl, s, e, r⟩ := hx.of_tup
  exact RLen.tup (sqT e) (by rw [r.length]; exact h)
theorem f_lenO {a : Addr} {xs : List V} (e : w.H a = some (.lst xs)) (h : Q (.int xs.length) w.H) : KBf K .len Q [.ref a] w.H := RLen.lst (sqL e) h
theorem f_lenS {s : Str} (hl : s.length ≤ sizeLine) (h : Q (.int s.length) H) : KBf K .len Q [.str s] H := ⟨hl, h⟩
theorem f_int {i : Int} (h : Q (.int i) H) : KBf K .int Q [.int i] H := h
theorem f_intb {b : Bool} (h : Q (.int (if b = true then 1 else 0)) H) : KBf K .int Q [.bl b] H := h
theorem f_abs {i : Int} (h : Q (.int (if i < 0 then -i else i)) H) : KBf K .abs Q [.int i] H := h
theorem f_max {i j : Int} (h : Q (.int (if j > i then j else i)) H) : KBf K .max Q [.int i, .int j] H := h
theorem f_min {i j : Int} (h : Q (.int (if j < i then j else i)) H) : KBf K .min Q [.int i, .int j] H := h
theorem f_isi {x c : V} {t u : Value} {b : Bool} (hc : ClsV c u) (ht : TyX K H x t) (hk : PySem.W.kitOne K t u = some b) (h : Q (.bl b) H) : KBf K .isi Q [x, c] H := ⟨t, u, b, hc, ht, hk, h⟩
theorem f_repr {x : V} {d : PyData} (hd : Dq K H x d) (h1 : d.showable = true) (h3 : d.depth < 63) (h4 : d.shown.length ≤ sizeLine) (h : Q (.str d.shown) H) : KBf K .repr Q [x] H := ⟨d, hd, h1, h3, h4, h⟩
theorem f_tupL {x : V} {ds : List PyData} (hx : Dv w x (.list ds)) (h : ∀ w' y, Ex [] w w' → Dv w' y (.tuple ds) → Q y w'.H) : KBf K .tuple Q [x] w.H := by
  obtain ⟨a, xs, rfl, s, e, r⟩ := hx.of_lst
  exact RTup.lst (sqL e) (new_tup r h)
theorem f_tupO {a : Addr} {xs : List V} {ds : List PyData} (e : w.H a = some (.lst xs)) (r : Dvs w xs ds) (h : ∀ w' y, Ex [] w w' → Dv w' y (.tuple ds) → Q y w'.H) : KBf K .tuple Q [.ref a] w.H := RTup.lst (sqL e) (new_tup r h)
theorem f_lstL {x : V} {ds : List PyData} (hx : Dv w x (.list ds)) (h : ∀ w' y, Ex [] w w' → Dv w' y (.list ds) → Q y w'.H) : KBf K .list Q [x] w.H := by
  obtain ⟨a, xs, rfl, s, e, r⟩ := hx.of_lst
  exact RLst.lst (sqL e) (new_lst r h)
theorem f_lstO {a : Addr} {xs : List V} (e : w.H a = some (.lst xs)) (h : KNew (.lst xs) Q w.H) : KBf K .list Q [.ref a] w.H := RLst.lst (sqL e) h
theorem f_lstOT {a : Addr} {xs : List V} (e : w.H a = some (.tup xs)) (h : KNew (.lst xs) Q w.H) : KBf K .list Q [.ref a] w.H := RLst.tup (sqT e) h
/-! methods of built-in types -/
def KM1 (v : Ev) (m : Bm) (es : Xps) (W : WX) (σ : St) (Q : VK) : VK := fun x H => tyV v.K m.ty x H ∧ es.den v W σ H fun vs H2 => rBm v.K m x vs H2 Q
def KM2 (K : PySem.W.Frag) (m : Bm) (x : V) (Q : VK) : List V → Hp → Prop := fun vs H => rBm K m x vs H Q
theorem e_bm {m : Bm} {o : Xp} {es : Xps} (h : o.den v W σ H (KM1 v m es W σ Q)) : Xp.den v (.bm m o es) W σ H Q := h
theorem m_app {a : Addr} {xs : List V} {x : V} (o : Op w a (.lst xs)) (hl : xs.length < sizeLine) (h : ∀ w', Ex [a] w w' → Op w' a (.lst (xs ++ [x])) → Q .non w'.H) : KM2 K .append (.ref a) Q [x] w.H :=
  ⟨xs, o.h, hl, h (w.put a _) (ex_set o) (op_set o)⟩
theorem m_pop {a : Addr} {xs : List V} {x : V} (o : Op w a (.lst (xs ++ [x]))) (h : ∀ w', Ex [a] w w' → Op w' a (.lst xs) → Q x w'.H) : KM2 K .pop (.ref a) Q [] w.H := by
  have hd : (xs ++ [x]).dropLast = xs := by simp
  refine ⟨xs ++ [x], x, o.h, by simp, ?_⟩
  rw [hd]
  exact h (w.put a _) (ex_set o) (op_set o)
end
/-! calls -/
def KCl (v : Ev) (f : Nat) (W : WX) (σ : St) (Q : VK) : List V → Hp → Prop := fun vs H1 => v.sp f vs H1 Q fun c d H2 => W c d σ H2
theorem e_call {f : Nat} {es : Xps} (h : es.den v W σ H (KCl v f W σ Q)) : Xp.den v (.call f es) W σ H Q := h
theorem k_cl {f : Nat} {vs : List V} (h : spOf v D n f vs H Q fun c d H2 => W c d σ H2) : KCl (evAt v D n) f W σ Q vs H := h
/-! fields -/
theorem e_fld {C : Nat} {o : Xp} {f : Str} (h : o.den v W σ H (fun x H1 => ∃ a dx fs z, x = .ref a ∧ H1 a = some (.ins (v.cls C) dx fs) ∧ fs.lookup f = some z ∧ Q z H1)) : Xp.den v (.fld C o f) W σ H Q := h
/-! tests -/
section
variable {P : Bool → Hp → Prop} {K : PySem.W.Frag}
def KTr (K : PySem.W.Frag) (P : Bool → Hp → Prop) : VK := fun x H => rTru K x H fun b => P b H
theorem t_tr {e : Xp} (h : e.den v W σ H (KTr v.K P)) : Tt.den v (.tr e) W σ H P := h
theorem k_trb {b : Bool} (h : P b H) : KTr K P (.bl b) H := h
theorem k_tri {b : Int} (h : P (decide (b ≠ 0)) H) : KTr K P (.int b) H := h
theorem k_trn (h : P false H) : KTr K P .non H := h
theorem t_cmp {op : CmpOp} {a b : Xp} (h : a.den v W σ H (KC1 v op b W σ P)) : Tt.den v (.cmp op a b) W σ H P := h
def KTA (v : Ev) (b : Tt) (W : WX) (σ : St) (P : Bool → Hp → Prop) : Bool → Hp → Prop := fun c H => if c = true then b.den v W σ H P else P false H
def KTO (v : Ev) (b : Tt) (W : WX) (σ : St) (P : Bool → Hp → Prop) : Bool → Hp → Prop := fun c H => if c = true then P true H else b.den v W σ H P
def KTN (P : Bool → Hp → Prop) : Bool → Hp → Prop := fun c H => P (!c) H
theorem t_and {a b : Tt} (h : a.den v W σ H (KTA v b W σ P)) : Tt.den v (.and a b) W σ H P := h
theorem t_or {a b : Tt} (h : a.den v W σ H (KTO v b W σ P)) : Tt.den v (.or a b) W σ H P := h
theorem t_not {a : Tt} (h : a.den v W σ H (KTN P)) : Tt.den v (.not a) W σ H P := h
theorem k_tn {c : Bool} (h : P (!c) H) : KTN P c H := h
theorem k_ta {b : Tt} {c : Bool} (ht : c = true → b.den v W σ H P) (hf : c = false → P false H) : KTA v b W σ P c H := by
  cases c with
  | true => exact ht rfl
  | false => exact hf rfl
theorem k_to {b : Tt} {c : Bool} (ht : c = true → P true H) (hf : c = false → b.den v W σ H P) : KTO v b W σ P c H := by
  cases c with
  | true => exact ht rfl
  | false => exact hf rfl
end
/-! slices -/
theorem e_sl {a : Xp} {lo hi : Xpo} (h : tSl (rSlAny v.K) (a.den v W) (lo.den v W) (hi.den v W) σ H Q) : Xp.den v (.sl a lo hi) W σ H Q := h

/-! ### loops -/
/-- the end of a turn -/
def KIs (P : St → Wd → Prop) : St → Hp → Prop := fun σ H => ∃ w, H = w.H ∧ P σ w
theorem k_is {P : St → Wd → Prop} {w : Wd} (h : P σ w) : KIs P σ w.H := ⟨w, rfl, h⟩
def KFor (g : TG) (tb : TS) (D : Ends) (σ : St) (J : It) (H1 : Hp) : Prop := ∃ W : Nat → Nat → St → Hp → Prop, (∃ m, W 0 m σ H1) ∧ ∀ i m σ H, W i m σ H →
  (J.stop i H ∧ D.nx σ H) ∨ (J.go i H ∧ ∃ N : St → Hp → Prop, (∀ σ' H', N σ' H' → ∃ m', m' < m ∧ W (i + 1) m' σ' H') ∧ ∀ x H', J.yld i H x H' → g x σ H' fun σ2 H2 => tb { D with nx := N, ct := N, bk := D.nx } σ2 H2)
theorem r_for {g : Tg} {it : Sq} {b : Sms} {D : Ends} (h : it.den v W σ H (KFor (g.den v W) (b.den v W) D σ)) : Sm.den v (.for_ g it b) W D σ H := h
def KR1 (R : It → Hp → Prop) : VK := fun x H => ∃ j : Int, [x] = [.int j] ∧ -(2 ^ 62) ≤ j ∧ j < 2 ^ 62 ∧ R (Itr 0 j.toNat) H
theorem q_rng1 {a : Xp} {R : It → Hp → Prop} (h : a.den v W σ H (KR1 R)) : Sq.den v (.rng1 a) W σ H R := h
theorem k_r1 {j : Int} {R : It → Hp → Prop} (h1 : -(2 ^ 62) ≤ j) (h2 : j < 2 ^ 62) (h : R (Itr 0 j.toNat) H) : KR1 R (.int j) H := ⟨j, rfl, h1, h2, h⟩
def KR2 (v : Ev) (b : Xp) (W : WX) (σ : St) (R : It → Hp → Prop) : VK := fun x H => b.den v W σ H fun y H => ∃ i j : Int, [x, y] = [.int i, .int j] ∧ (-(2 ^ 62) ≤ i ∧ i < 2 ^ 62 ∧ -(2 ^ 62) ≤ j ∧ j < 2 ^ 62) ∧ R (Itr i (j - i).toNat) H
theorem q_rng2 {a b : Xp} {R : It → Hp → Prop} (h : a.den v W σ H (KR2 v b W σ R)) : Sq.den v (.rng2 a b) W σ H R := h
def KR3 (i : Int) (R : It → Hp → Prop) : VK := fun y H => ∃ j : Int, y = .int j ∧ (-(2 ^ 62) ≤ i ∧ i < 2 ^ 62 ∧ -(2 ^ 62) ≤ j ∧ j < 2 ^ 62) ∧ R (Itr i (j - i).toNat) H
theorem k_r2 {i j : Int} {b : Xp} {R : It → Hp → Prop} (c : -(2 ^ 62) ≤ i ∧ i < 2 ^ 62 ∧ -(2 ^ 62) ≤ j ∧ j < 2 ^ 62) (h : b.den v W σ H (fun y H => y = .int j ∧ R (Itr i (j - i).toNat) H)) (mono : ∀ (P P' : VK), (∀ y H, P y H → P' y H) → b.den v W σ H P → b.den v W σ H P') : KR2 v b W σ R (.int i) H :=
  mono _ _ (fun y H q => ⟨i, j, by rw [q.1], c, q.2⟩) h
theorem k_for_rng {lo : Int} {m : Nat} {g : TG} {tb : TS} {w : Wd} (Inv : Nat → St → Wd → Prop) (h0 : Inv 0 σ w)
    (hs : ∀ i σ w, i < m → Inv i σ w → g (.int (lo + i)) σ w.H fun σ2 H2 => tb ⟨KIs (Inv (i + 1)), rt, nx, KIs (Inv (i + 1))⟩ σ2 H2)
    (hd : ∀ σ w, Inv m σ w → nx σ w.H) : KFor g tb ⟨nx, rt, bk, ct⟩ σ (Itr lo m) w.H :=
  for_range (fun i => KIs (Inv i)) (k_is h0) (fun i σ H hi ⟨w, e, p⟩ => by subst e; exact hs i σ w hi p) fun σ H ⟨w, e, p⟩ => by subst e; exact hd σ w p
theorem k_for_lst {K : PySem.W.Frag} {a : Addr} {xs : List V} {g : TG} {tb : TS} {w : Wd} (Inv : Nat → St → Wd → Prop) (hk : ∀ i σ w', Inv i σ w' → w'.H a = some (.lst xs)) (h0 : Inv 0 σ w)
    (hs : ∀ i x σ w, xs[i]? = some x → Inv i σ w → g x σ w.H fun σ2 H2 => tb ⟨KIs (Inv (i + 1)), rt, nx, KIs (Inv (i + 1))⟩ σ2 H2)
    (hd : ∀ σ w, Inv xs.length σ w → nx σ w.H) : KFor g tb ⟨nx, rt, bk, ct⟩ σ (Itl K a) w.H :=
  for_list (xs := xs) (fun i => KIs (Inv i)) (k_is h0) (fun i σ H hi ⟨w, e, p⟩ => by subst e; exact sqL (hk i σ w p)) (fun i x σ H hx ⟨w, e, p⟩ => by subst e; exact hs i x σ w hx p) fun σ H ⟨w, e, p⟩ => by subst e; exact hd σ w p
theorem k_for_tup {K : PySem.W.Frag} {a : Addr} {xs : List V} {g : TG} {tb : TS} {w : Wd} (Inv : Nat → St → Wd → Prop) (hk : ∀ i σ w', Inv i σ w' → w'.H a = some (.tup xs)) (h0 : Inv 0 σ w)
    (hs : ∀ i x σ w, xs[i]? = some x → Inv i σ w → g x σ w.H fun σ2 H2 => tb ⟨KIs (Inv (i + 1)), rt, nx, KIs (Inv (i + 1))⟩ σ2 H2)
    (hd : ∀ σ w, Inv xs.length σ w → nx σ w.H) : KFor g tb ⟨nx, rt, bk, ct⟩ σ (Itt K a) w.H :=
  for_tup (xs := xs) (fun i => KIs (Inv i)) (k_is h0) (fun i σ H hi ⟨w, e, p⟩ => by subst e; exact sqT (hk i σ w p)) (fun i x σ H hx ⟨w, e, p⟩ => by subst e; exact hs i x σ w hx p) fun σ H ⟨w, e, p⟩ => by subst e; exact hd σ w p
def KLs (K : PySem.W.Frag) (R : It → Hp → Prop) : VK := fun x H1 => ∃ a, x = .ref a ∧ (∃ xs, SqL K H1 a xs) ∧ R (Itl K a) H1
theorem q_lst {e : Xp} {R : It → Hp → Prop} (h : e.den v W σ H (KLs v.K R)) : Sq.den v (.lst e) W σ H R := h
theorem k_ls {K : PySem.W.Frag} {w : Wd} {a : Addr} {xs : List V} {R : It → Hp → Prop} (e : w.H a = some (.lst xs)) (h : R (Itl K a) w.H) : KLs K R (.ref a) w.H := ⟨a, rfl, ⟨xs, sqL e⟩, h⟩
theorem k_lsD {K : PySem.W.Frag} {w : Wd} {x : V} {ds : List PyData} {R : It → Hp → Prop} (hx : Dv w x (.list ds)) (h : ∀ a xs, x = .ref a → w.S a → w.H a = some (.lst xs) → Dvs w xs ds → R (Itl K a) w.H) : KLs K R x w.H := by
  obtain ⟨a, xs, rfl, s, e, r⟩ := hx.of_lst
  exact k_ls e (h a xs rfl s e r)
def KLt (K : PySem.W.Frag) (R : It → Hp → Prop) : VK := fun x H1 => ∃ a, x = .ref a ∧ (∃ xs, SqT K H1 a xs) ∧ R (Itt K a) H1
theorem q_tup {e : Xp} {R : It → Hp → Prop} (h : e.den v W σ H (KLt v.K R)) : Sq.den v (.tup e) W σ H R := h
theorem k_ltD {K : PySem.W.Frag} {w : Wd} {x : V} {ds : List PyData} {R : It → Hp → Prop} (hx : Dv w x (.tuple ds)) (h : ∀ a xs, x = .ref a → w.S a → w.H a = some (.tup xs) → Dvs w xs ds → R (Itt K a) w.H) : KLt K R x w.H := by
  obtain ⟨a, xs, rfl, s, e, r⟩ := hx.of_tup
  exact ⟨a, rfl, ⟨xs, sqT e⟩, h a xs rfl s e r⟩
/-- what is sealed stays -/
theorem Ex.keepL {T : List Addr} {w w' : Wd} {a : Addr} {o : HO} (e : Ex T w w') (s : w.S a) (h : w.H a = some o) : w'.H a = some o := e.kp a o h fun z => e.op a z s
/-! while -/
def KWb (P : St → Wd → Prop) (nx : St → Hp → Prop) (tb : Ends → St → Hp → Prop) (rt : VK) (σ : St) : Bool → Hp → Prop := fun b H1 => if b = true then tb ⟨KIs P, rt, nx, KIs P⟩ σ H1 else nx σ H1
/-! comprehensions -/
def KLc (g : TG) (tt : TT) (te : TE) (vs : List Nat) (σ : St) (Q : VK) (J : It) (H1 : Hp) : Prop := ∀ D, H1 D = none → ∃ W : Nat → Nat → Hp → Prop, (∃ m, W 0 m (upd H1 D (.lst []))) ∧ ∀ i m H, W i m H →
  (J.stop i H ∧ Q (.ref D) H) ∨ (J.go i H ∧ ∃ Nx : Hp → Prop, (∀ H', Nx H' → ∃ m', m' < m ∧ W (i + 1) m' H') ∧ ∀ x H', J.yld i H x H' → g x (wipe σ vs) H' fun σ2 H2 => wipe σ2 vs = wipe σ vs ∧ tt σ2 H2 fun b H3 =>
    if b = true then te σ2 H3 fun y H4 => ∃ acc, H4 D = some (.lst acc) ∧ acc.length < sizeLine ∧ Nx (upd H4 D (.lst (acc ++ [y]))) else Nx H3)
def noW : WX := fun _ _ _ _ => False
theorem e_lc {el : Xp} {tg : Tg} {it : Sq} {ifs : Tto} {own : List Nat} (h : it.den v W σ H (KLc (tg.den v noW) (ifs.den v noW) (el.den v noW) own σ Q)) : Xp.den v (.lc el tg it ifs own) W σ H Q := h
def KIw (P : Wd → Prop) : Hp → Prop := fun H => ∃ w, H = w.H ∧ P w
def KAp (D : Addr) (P : Wd → Prop) : VK := fun y H4 => ∃ acc, H4 D = some (.lst acc) ∧ acc.length < sizeLine ∧ KIw P (upd H4 D (.lst (acc ++ [y])))
theorem k_ap {D : Addr} {P : Wd → Prop} {w : Wd} {acc : List V} {y : V} (o : Op w D (.lst acc)) (hl : acc.length < sizeLine) (h : ∀ w', Ex [D] w w' → Op w' D (.lst (acc ++ [y])) → P w') : KAp D P y w.H :=
  ⟨acc, o.h, hl, w.put D _, rfl, h _ (ex_set o) (op_set o)⟩
def KLb (tt : TT) (te : TE) (vs : List Nat) (σ0 : St) (D : Addr) (P : Wd → Prop) : St → Hp → Prop := fun σ2 H2 => wipe σ2 vs = wipe σ0 vs ∧ tt σ2 H2 fun b H3 => if b = true then te σ2 H3 (KAp D P) else KIw P H3
theorem k_lb0 {te : TE} {vs : List Nat} {σ0 : St} {D : Addr} {P : Wd → Prop} (hw : wipe σ vs = wipe σ0 vs) (h : te σ H (KAp D P)) : KLb (Tto.den v .no W) te vs σ0 D P σ H := ⟨hw, h⟩
def KLd (te : TE) (D : Addr) (P : Wd → Prop) (σ : St) : Bool → Hp → Prop := fun b H3 => if b = true then te σ H3 (KAp D P) else KIw P H3
theorem k_lb1 {t : Tt} {te : TE} {vs : List Nat} {σ0 : St} {D : Addr} {P : Wd → Prop} (hw : wipe σ vs = wipe σ0 vs) (h : t.den v W σ H (KLd te D P σ)) : KLb (Tto.den v (.so t) W) te vs σ0 D P σ H := ⟨hw, h⟩
theorem k_ld {te : TE} {D : Addr} {P : Wd → Prop} {w : Wd} {b : Bool} (ht : b = true → te σ w.H (KAp D P)) (hf : b = false → P w) : KLd te D P σ b w.H := by
  cases b with
  | true => exact ht rfl
  | false => exact ⟨w, rfl, hf rfl⟩
theorem k_lc_rng {lo : Int} {m : Nat} {g : TG} {tt : TT} {te : TE} {vs : List Nat} {w : Wd} (h : ∀ w1 D, Ex [] w w1 → w.H D = none → Op w1 D (.lst []) → ∃ Inv : Nat → Wd → Prop, Inv 0 w1 ∧
    (∀ i w', i < m → Inv i w' → g (.int (lo + i)) (wipe σ vs) w'.H (KLb tt te vs σ D (Inv (i + 1)))) ∧ ∀ w', Inv m w' → Q (.ref D) w'.H) : KLc g tt te vs σ Q (Itr lo m) w.H := fun D hD => by
  obtain ⟨Inv, h0, hs, hd⟩ := h (w.put D (.lst [])) D (ex_new hD) hD (op_new hD)
  exact lc_range (Qd := Q (.ref D)) (fun i => KIw (Inv i)) ⟨_, rfl, h0⟩ (fun i H hi ⟨w', e, p⟩ => by subst e; exact hs i w' hi p) fun H ⟨w', e, p⟩ => by subst e; exact hd w' p
theorem k_lc_lst {K : PySem.W.Frag} {a : Addr} {xs : List V} {g : TG} {tt : TT} {te : TE} {vs : List Nat} {w : Wd} (h : ∀ w1 D, Ex [] w w1 → w.H D = none → Op w1 D (.lst []) → ∃ Inv : Nat → Wd → Prop, Inv 0 w1 ∧ (∀ i w', Inv i w' → SqL K w'.H a xs) ∧
    (∀ i x w', xs[i]? = some x → Inv i w' → g x (wipe σ vs) w'.H (KLb tt te vs σ D (Inv (i + 1)))) ∧ ∀ w', Inv xs.length w' → Q (.ref D) w'.H) : KLc g tt te vs σ Q (Itl K a) w.H := fun D hD => by
  obtain ⟨Inv, h0, hk, hs, hd⟩ := h (w.put D (.lst [])) D (ex_new hD) hD (op_new hD)
  exact lc_list (xs := xs) (Qd := Q (.ref D)) (fun i => KIw (Inv i)) ⟨_, rfl, h0⟩ (fun i H hi ⟨w', e, p⟩ => by subst e; exact hk i w' p) (fun i x H hx ⟨w', e, p⟩ => by subst e; exact hs i x w' hx p) fun H ⟨w', e, p⟩ => by subst e; exact hd w' p
end
end DI

/-! DI, part 13: more of the readings' rules. -/
namespace DI
open L2
open PySem.Spec
open PyProof.Rows hiding St
open PySem

section
variable {v : Ev} {D : Nat → Df} {n : Nat} {W : WX} {σ : St} {H : Hp} {Q : VK} {nx bk ct : St → Hp → Prop} {rt : VK} {K : PySem.W.Frag} {w : Wd}
theorem get_of {α : Type} {xs : List α} {i : Nat} (h : i < xs.length) : ∃ a, xs[i]? = some a := ⟨xs[i], by simp [h]⟩
theorem getD_some {α : Type} {xs : List α} {i : Nat} {z : α} (h : i < xs.length) : xs[i]? = some (xs.getD i z) := by
  rw [List.getD_eq_getElem?_getD, List.getElem?_eq_getElem h]; rfl
/-- an int out of a list, by its bounds -/
theorem i_G {x : V} {xs : List Int} {i : Int} (hx : Dv w x (.list (xs.map PyData.int))) (h0 : 0 ≤ i) (h1 : i < xs.length) (h : Q (.int (xs.getD i.toNat 0)) w.H) : KI2 K x Q (.int i) w.H :=
  i_Li hx h0 (by rw [List.getElem?_map, getD_some (z := 0) (by omega)]; rfl) h
theorem i_GT {x : V} {xs : List Int} {i : Int} (hx : Dv w x (.tuple (xs.map PyData.int))) (h0 : 0 ≤ i) (h1 : i < xs.length) (h : Q (.int (xs.getD i.toNat 0)) w.H) : KI2 K x Q (.int i) w.H :=
  i_Ti hx h0 (by rw [List.getElem?_map, getD_some (z := 0) (by omega)]; rfl) h
theorem i_M {α : Type} {g : α → PyData} {z : α} {x : V} {xs : List α} {i : Int} (hx : Dv w x (.list (xs.map g))) (h0 : 0 ≤ i) (h1 : i < xs.length) (h : ∀ y, Dv w y (g (xs.getD i.toNat z)) → Q y w.H) : KI2 K x Q (.int i) w.H :=
  i_L hx h0 (by rw [List.getElem?_map, getD_some (z := z) (by omega)]; rfl) h
theorem i_OG {a : Addr} {xs : List Int} {i : Int} (e : w.H a = some (.lst (xs.map V.int))) (h0 : 0 ≤ i) (h1 : i < xs.length) (h : Q (.int (xs.getD i.toNat 0)) w.H) : KI2 K (.ref a) Q (.int i) w.H :=
  i_O e h0 (by rw [List.getElem?_map, getD_some (z := 0) (by omega)]; rfl) h
theorem i_OM {α : Type} {g : α → PyData} {z : α} {a : Addr} {vs : List V} {xs : List α} {i : Int} (e : w.H a = some (.lst vs)) (r : Dvs w vs (xs.map g)) (h0 : 0 ≤ i) (h1 : i < xs.length) (h : ∀ y, Dv w y (g (xs.getD i.toNat z)) → Q y w.H) : KI2 K (.ref a) Q (.int i) w.H := by
  obtain ⟨y, hy, q⟩ := r.get (i := i.toNat) (d := g (xs.getD i.toNat z)) (by rw [List.getElem?_map, getD_some (z := z) (by omega)]; rfl)
  exact i_O e h0 hy (h y q)
/-- a pair of ints -/
theorem i_T0 {x : V} {i j : Int} (hx : Dv w x (.tuple [.int i, .int j])) (h : Q (.int i) w.H) : KI2 K x Q (.int 0) w.H := i_Ti hx (by decide) rfl h
theorem i_T1 {x : V} {i j : Int} (hx : Dv w x (.tuple [.int i, .int j])) (h : Q (.int j) w.H) : KI2 K x Q (.int 1) w.H := i_Ti hx (by decide) rfl h
theorem g_ii {x : V} {i j : Int} {g1 g2 : Tg} {P : St → Hp → Prop} (hx : Dv w x (.tuple [.int i, .int j])) (h : KTs v (.cons g1 (.cons g2 .nil)) W P [.int i, .int j] σ w.H) : Tg.den v (.tup (.cons g1 (.cons g2 .nil))) W x σ w.H P :=
  g_tup hx rfl fun xs r => by
    cases r with
    | cons a r => cases a; cases r with
      | cons b r => cases b; cases r; exact h
theorem f_isiI {i : Int} {b : String} {r : Bool} (e : kitB "int" b = some r) (h : Q (.bl r) H) : KBf K .isi Q [.int i, .ty b] H := f_isi (.ty _) (.base (.int i)) (kit_ty e) h
theorem f_isiB {i : Bool} {b : String} {r : Bool} (e : kitB "bool" b = some r) (h : Q (.bl r) H) : KBf K .isi Q [.bl i, .ty b] H := f_isi (.ty _) (.base (.bl i)) (kit_ty e) h
theorem f_isiS {i : Str} {b : String} {r : Bool} (e : kitB "str" b = some r) (h : Q (.bl r) H) : KBf K .isi Q [.str i, .ty b] H := f_isi (.ty _) (.base (.str i)) (kit_ty e) h
theorem f_isiO {a : Addr} {xs : List V} {b : String} {r : Bool} (o : w.H a = some (.lst xs)) (e : kitB "list" b = some r) (h : Q (.bl r) w.H) : KBf K .isi Q [.ref a, .ty b] w.H := f_isi (.ty _) (.base (.lst o)) (kit_ty e) h
theorem f_isiL {x : V} {ds : List PyData} {b : String} {r : Bool} (hx : Dv w x (.list ds)) (e : kitB "list" b = some r) (h : Q (.bl r) w.H) : KBf K .isi Q [x, .ty b] w.H := by
  obtain ⟨a, xs, rfl, s, o, _⟩ := hx.of_lst
  exact f_isiO o e h
theorem f_isiD {x : V} {m : List (PyData × PyData)} {b : String} {r : Bool} (hx : Dv w x (.dict m)) (e : kitB "dict" b = some r) (h : Q (.bl r) w.H) : KBf K .isi Q [x, .ty b] w.H := by
  obtain ⟨a, kvs, rfl, s, o⟩ := hx.of_dic
  exact f_isi (.ty _) (.base (.dK o)) (kit_ty e) h
theorem f_isiT {x : V} {ds : List PyData} {b : String} {r : Bool} (hx : Dv w x (.tuple ds)) (e : kitB "tuple" b = some r) (h : Q (.bl r) w.H) : KBf K .isi Q [x, .ty b] w.H := by
  obtain ⟨a, xs, rfl, s, o, _⟩ := hx.of_tup
  exact f_isi (.ty _) (.base (.tup o)) (kit_ty e) h
/-- x[lo:hi] of a list, any -/
theorem sl_L {a : Addr} {xs : List V} {lo hi : Option Int} (h : SqL K H a xs) (q : KNew (.lst (cutV xs lo hi)) Q H) : rSlAny K (.ref a) lo hi H Q := RSlR.lst h q

theorem k_for_n {m : Nat} {g : TG} {tb : TS} (k : Nat) (hk : m = k) (Inv : Nat → St → Wd → Prop) (h0 : Inv 0 σ w)
    (hs : ∀ i σ w, i < k → Inv i σ w → g (.int i) σ w.H fun σ2 H2 => tb ⟨KIs (Inv (i + 1)), rt, nx, KIs (Inv (i + 1))⟩ σ2 H2)
    (hd : ∀ σ w, Inv k σ w → nx σ w.H) : KFor g tb ⟨nx, rt, bk, ct⟩ σ (Itr 0 m) w.H := by
  subst hk
  exact k_for_rng Inv h0 (fun i σ w hi p => by have := hs i σ w hi p; rwa [← Int.zero_add (i : Int)] at this) hd
theorem k_lc_n {m : Nat} {g : TG} {tt : TT} {te : TE} {vs : List Nat} (k : Nat) (hk : m = k) (h : ∀ w1 D, Ex [] w w1 → w.H D = none → Op w1 D (.lst []) → ∃ Inv : Nat → Wd → Prop, Inv 0 w1 ∧
    (∀ i w', i < k → Inv i w' → g (.int i) (wipe σ vs) w'.H (KLb tt te vs σ D (Inv (i + 1)))) ∧ ∀ w', Inv k w' → Q (.ref D) w'.H) : KLc g tt te vs σ Q (Itr 0 m) w.H := by
  subst hk
  refine k_lc_rng fun w1 D e hd o => ?_
  obtain ⟨Inv, h0, hs, h1⟩ := h w1 D e hd o
  exact ⟨Inv, h0, fun i w' hi p => by have := hs i w' hi p; rwa [← Int.zero_add (i : Int)] at this, h1⟩
theorem k_m1 {m : Bm} {es : Xps} {a : Addr} {xs : List V} (o : w.H a = some (.lst xs)) (hm : m.ty = "list") (h : es.den v W σ w.H (KM2 v.K m (.ref a) Q)) : KM1 v m es W σ Q (.ref a) w.H := by
  refine ⟨?_, h⟩
  rw [hm]
  exact .inl ⟨rfl, xs, sqL o⟩
/-! ### the walk of a list of data -/
theorem k_for_D {x : V} {ds : List PyData} {g : TG} {tb : TS} (hx : Dv w x (.list ds)) (Inv : Nat → St → Wd → Prop) (hk : ∀ i σ w', Inv i σ w' → ∃ T, Ex T w w') (h0 : Inv 0 σ w)
    (hs : ∀ i d y σ w', ds[i]? = some d → Dv w' y d → Inv i σ w' → g y σ w'.H fun σ2 H2 => tb ⟨KIs (Inv (i + 1)), rt, nx, KIs (Inv (i + 1))⟩ σ2 H2)
    (hd : ∀ σ w', Inv ds.length σ w' → nx σ w'.H) : KLs K (KFor g tb ⟨nx, rt, bk, ct⟩ σ) x w.H := by
  refine k_lsD hx fun a xs e s ha r => ?_
  refine k_for_lst (xs := xs) Inv (fun i σ w' p => ?_) h0 (fun i y σ w' hy p => ?_) fun σ w' p => hd σ w' (by rw [← r.length]; exact p)
  · obtain ⟨T, ex⟩ := hk i σ w' p
    exact ex.keepL s ha
  · obtain ⟨T, ex⟩ := hk i σ w' p
    obtain ⟨d, hd, hv⟩ := r.get' hy
    exact hs i d y σ w' hd (hv.ex ex) p
theorem k_for_DT {x : V} {ds : List PyData} {g : TG} {tb : TS} (hx : Dv w x (.tuple ds)) (Inv : Nat → St → Wd → Prop) (hk : ∀ i σ w', Inv i σ w' → ∃ T, Ex T w w') (h0 : Inv 0 σ w)
    (hs : ∀ i d y σ w', ds[i]? = some d → Dv w' y d → Inv i σ w' → g y σ w'.H fun σ2 H2 => tb ⟨KIs (Inv (i + 1)), rt, nx, KIs (Inv (i + 1))⟩ σ2 H2)
    (hd : ∀ σ w', Inv ds.length σ w' → nx σ w'.H) : KLt K (KFor g tb ⟨nx, rt, bk, ct⟩ σ) x w.H := by
  refine k_ltD hx fun a xs e s ha r => ?_
  refine k_for_tup (xs := xs) Inv (fun i σ w' p => ?_) h0 (fun i y σ w' hy p => ?_) fun σ w' p => hd σ w' (by rw [← r.length]; exact p)
  · obtain ⟨T, ex⟩ := hk i σ w' p
    exact ex.keepL s ha
  · obtain ⟨T, ex⟩ := hk i σ w' p
    obtain ⟨d, hd, hv⟩ := r.get' hy
    exact hs i d y σ w' hd (hv.ex ex) p
end

/-! ### the drawing of numbers -/
/-- the state of the numbers that a law draws -/
structure Gen (w : Wd) (s c : Addr) : Prop where
  g : ∃ (i : Int) (cells : List Int), Op w s (.lst [.int i, .ref c]) ∧ Op w c (.lst (cells.map V.int)) ∧ 0 ≤ i ∧ 0 < cells.length ∧ ∀ x ∈ cells, 0 ≤ x
  ne : s ≠ c
theorem Gen.ex {w w' : Wd} {s c : Addr} {T : List Addr} (e : Ex T w w') (g : Gen w s c) (hs : s ∉ T) (hc : c ∉ T) : Gen w' s c := by
  obtain ⟨i, cs, h1, h2, h3⟩ := g.g
  exact ⟨⟨i, cs, h1.ex e hs, h2.ex e hc, h3⟩, g.ne⟩
theorem Gen.ex0 {w w' : Wd} {s c : Addr} (e : Ex [] w w') (g : Gen w s c) : Gen w' s c := g.ex e (by simp) (by simp)
theorem Gen.fs {w : Wd} {s c p : Addr} (g : Gen w s c) (h : w.H p = none) : s ≠ p := by obtain ⟨i, cs, h1, h2, h3⟩ := g.g; exact h1.ne h
theorem Gen.fc {w : Wd} {s c p : Addr} (g : Gen w s c) (h : w.H p = none) : c ≠ p := by obtain ⟨i, cs, h1, h2, h3⟩ := g.g; exact h2.ne h
theorem Gen.op {w : Wd} {s c : Addr} (g : Gen w s c) : ∀ b ∈ [s, c], ¬ w.S b := by
  obtain ⟨i, cs, h1, h2, h3⟩ := g.g
  intro b hb
  simp only [List.mem_cons, List.not_mem_nil, or_false] at hb
  rcases hb with rfl | rfl
  · exact h1.n
  · exact h2.n
/-- frames of the drawing -/
theorem Ex.gen {w w' : Wd} {s c : Addr} (e : Ex [] w w') (g : Gen w s c) : Ex [s, c] w w' := e.more (by simp) g.op
theorem Ex.t0 {T : List Addr} {w w1 w2 : Wd} (e : Ex T w w1) (f : Ex [] w1 w2) : Ex T w w2 := e.trans f (by simp)
theorem Ex.tt {T : List Addr} {w w1 w2 : Wd} (e : Ex T w w1) (f : Ex T w1 w2) : Ex T w w2 := e.trans f fun b h => .inl h
theorem Ex.tf {T : List Addr} {w w1 w2 : Wd} {p : Addr} (e : Ex T w w1) (f : Ex [p] w1 w2) (h : w.H p = none) : Ex T w w2 := e.trans f fun b hb => by
  simp only [List.mem_singleton] at hb; subst hb; exact .inr h
theorem Ex.tm {T : List Addr} {w w1 w2 : Wd} {p : Addr} (e : Ex T w w1) (f : Ex [p] w1 w2) (h : p ∈ T) : Ex T w w2 := e.trans f fun b hb => by
  simp only [List.mem_singleton] at hb; subst hb; exact .inl h
/-- the world of a heap of which nothing is sealed -/
def Wd.of (H : Hp) : Wd := ⟨H, fun _ => False, fun _ h => h.elim⟩
theorem cutV_ints {ns : List Int} {lo hi : Option Int} : ∃ ms : List Int, cutV (ns.map V.int) lo hi = ms.map V.int ∧ ms.length ≤ ns.length := by
  refine ⟨((ns.drop (HT.sIx (ns.map V.int).length 0 lo)).take (HT.sIx (ns.map V.int).length (ns.map V.int).length hi - HT.sIx (ns.map V.int).length 0 lo)), ?_, ?_⟩
  · unfold cutV; rw [List.map_take, List.map_drop]
  · rw [List.length_take, List.length_drop]; omega
end DI

/-! DI, part 14: sizes of data; repr and == of it. -/
namespace DI
open L2
open PySem.Spec
open PyProof.Rows hiding St
open PySem

/-- data that may be shown and compared: its depth, the signs of its text -/
structure Sz (p n : Nat) (d : PyData) : Prop where
  cl : d.canLay0 = true
  sh : d.showable = true
  dp : d.depth ≤ p
  ln : d.shown.length ≤ n
theorem Sz.mono {p n p' n' : Nat} {d : PyData} (h : Sz p n d) (hp : p ≤ p') (hn : n ≤ n') : Sz p' n' d := ⟨h.cl, h.sh, Nat.le_trans h.dp hp, Nat.le_trans h.ln hn⟩
theorem Sz.int {i : Int} (h : i.natAbs < 10 ^ 18) : Sz 0 19 (.int i) := by
  refine ⟨by simp [PyData.canLay0], ?_, Nat.le_refl _, ?_⟩
  · simp only [PyData.showable, decide_eq_true_eq]
    have : i.natAbs < 2 ^ 60 := Nat.lt_of_lt_of_le h (by decide)
    rcases Nat.eq_zero_or_pos i.natAbs with e | e
    · rw [e]; decide
    · exact Nat.lt_of_lt_of_le ((Nat.log2_lt (by omega)).mpr this) (by decide)
  · show (Str.ofString (toString i)).length ≤ 19
    rw [PySem.ofString_length]
    exact int_text_length_le10 (by decide) h
theorem Sz.bool (b : Bool) : Sz 0 5 (.bool b) := ⟨by simp [PyData.canLay0], by simp [PyData.showable], Nat.le_refl _, by cases b <;> decide⟩
theorem Sz.none : Sz 0 4 .none := ⟨by simp [PyData.canLay0], by simp [PyData.showable], Nat.le_refl _, by decide⟩
theorem textFrom_le : ∀ (ts : List Str) (k : Nat) (acc : Str), (textFrom k acc ts).length ≤ acc.length + piled ts
  | [], k, acc => by show acc.length ≤ acc.length + _; omega
  | t :: r, k, acc => by
    have h := textFrom_le r (k + 1) (acc ++ (if k > 0 then ", " else "" : String) ++ t)
    have e : (acc ++ (if k > 0 then ", " else "" : String) ++ t).length = acc.length + (if k > 0 then 2 else 0) + t.length := by
      rw [strLen_append, strLen_append]
      split <;> rfl
    rw [e] at h
    rw [piled_cons]
    show (textFrom (k + 1) (acc ++ (if k > 0 then ", " else "" : String) ++ t) r).length ≤ _
    have : (if k > 0 then 2 else 0) ≤ 2 := by split <;> omega
    omega
theorem listText_le (ts : List Str) : (listText ts).length ≤ piled ts + 2 := by
  unfold listText
  rw [strLen_append]
  have := textFrom_le ts 0 ("[" : String)
  have e1 : ((("[" : String) : Str)).length = 1 := rfl
  have e2 : ((("]" : String) : Str)).length = 1 := rfl
  rw [e1] at this
  rw [e2]
  omega
theorem tupleText_le (ts : List Str) : (tupleText ts).length ≤ piled ts + 3 := by
  unfold tupleText
  rw [strLen_append, strLen_append]
  have e1 : ((("(" : String) : Str)).length = 1 := rfl
  have e3 : (((if ts.length == 1 then ",)" else ")" : String) : Str)).length ≤ 2 := by split <;> decide
  rw [e1]
  have : (Str.join ", " ts).length ≤ piled ts := by
    by_cases h : ts = []
    · subst h; exact Nat.zero_le _
    · have := join_length_add ts h; omega
  omega
theorem piled_shown {n : Nat} : ∀ {ds : List PyData}, (∀ d ∈ ds, d.shown.length ≤ n) → piled (PyData.shownAll ds) ≤ ds.length * (n + 2)
  | [], _ => by simp [PyData.shownAll, piled]
  | d :: r, h => by
    have := piled_shown (ds := r) fun e he => h e (List.mem_cons_of_mem _ he)
    have h1 := h d (List.mem_cons_self ..)
    simp only [PyData.shownAll, piled_cons, List.length_cons]
    rw [Nat.add_mul]
    omega
theorem all_cl {p n : Nat} : ∀ {ds : List PyData}, (∀ d ∈ ds, Sz p n d) → PyData.canLayAll0 ds = true ∧ PyData.showableAll ds = true ∧ PyData.depthAll ds ≤ p
  | [], _ => ⟨by simp [PyData.canLayAll0], by simp [PyData.showableAll], by simp [PyData.depthAll]⟩
  | d :: r, h => by
    obtain ⟨h1, h2, h3⟩ := all_cl (ds := r) fun e he => h e (List.mem_cons_of_mem _ he)
    have z := h d (List.mem_cons_self ..)
    exact ⟨by simp [PyData.canLayAll0, z.cl, h1], by simp [PyData.showableAll, z.sh, h2], by simp only [PyData.depthAll]; have := z.dp; omega⟩
theorem Sz.list {p n m : Nat} {ds : List PyData} (h : ∀ d ∈ ds, Sz p n d) (hm : ds.length ≤ m) : Sz (p + 1) (m * (n + 2) + 2) (.list ds) := by
  obtain ⟨h1, h2, h3⟩ := all_cl h
  refine ⟨by simpa [PyData.canLay0] using h1, by simpa [PyData.showable] using h2, by simp only [PyData.depth]; omega, ?_⟩
  have a := listText_le (PyData.shownAll ds)
  have b := piled_shown (ds := ds) fun d hd => (h d hd).ln
  have c := Nat.mul_le_mul_right (n + 2) hm
  show (listText (PyData.shownAll ds)).length ≤ _
  omega
theorem Sz.tup {p n m : Nat} {ds : List PyData} (h : ∀ d ∈ ds, Sz p n d) (hm : ds.length ≤ m) : Sz (p + 1) (m * (n + 2) + 3) (.tuple ds) := by
  obtain ⟨h1, h2, h3⟩ := all_cl h
  refine ⟨by simpa [PyData.canLay0] using h1, by simpa [PyData.showable] using h2, by simp only [PyData.depth]; omega, ?_⟩
  have a := tupleText_le (PyData.shownAll ds)
  have b := piled_shown (ds := ds) fun d hd => (h d hd).ln
  have c := Nat.mul_le_mul_right (n + 2) hm
  show (tupleText (PyData.shownAll ds)).length ≤ _
  omega
theorem Sz.two {p n : Nat} {d e : PyData} (h : Sz p n d) (h' : Sz p n e) : Sz (p + 1) (2 * (n + 2) + 3) (.tuple [d, e]) := Sz.tup (m := 2) (by simp [h, h']) (by simp)
theorem Sz.ints {m : Nat} {ns : List Int} (h : ∀ i ∈ ns, i.natAbs < 10 ^ 18) (hm : ns.length ≤ m) : Sz 1 (m * 21 + 2) (.list (ns.map .int)) :=
  Sz.list (p := 0) (n := 19) (by simpa using fun i hi => Sz.int (h i hi)) (by simpa using hm)
theorem Sz.shaped {p n : Nat} {d : PyData} (h : Sz p n d) (hp : p ≤ 64) : SeqAt.shaped d = true := by
  unfold SeqAt.shaped
  rw [h.cl]
  simpa using Nat.le_trans h.dp hp
section
variable {K : PySem.W.Frag} {H : Hp} {Q : VK} {w : Wd} {P : Bool → Hp → Prop}
theorem f_reprS {p n : Nat} {x : V} {d : PyData} (hd : Dq K H x d) (z : Sz p n d) (hp : p < 63) (hn : n ≤ 16777216) (h : Q (.str d.shown) H) : KBf K .repr Q [x] H :=
  f_repr hd z.sh (Nat.lt_of_le_of_lt z.dp hp) (Nat.le_trans z.ln (by rw [sizeLine_eq]; exact hn)) h
/-- the same data are equal -/
theorem c_neS {p n : Nat} {x y : V} {d : PyData} (hd : Dq K w.H x d) (he : Dq K w.H y d) (z : Sz p n d) (hp : p ≤ 64) (h : P false w.H) : KC2 K .NotEq x P y w.H :=
  c_neD hd he (z.shaped hp) (z.shaped hp) (by rw [SeqAt.eqv_refl d z.cl]; exact h)
theorem c_eqS {p n : Nat} {x y : V} {d : PyData} (hd : Dq K w.H x d) (he : Dq K w.H y d) (z : Sz p n d) (hp : p ≤ 64) (h : P true w.H) : KC2 K .Eq x P y w.H :=
  c_eqD hd he (z.shaped hp) (z.shaped hp) (by rw [SeqAt.eqv_refl d z.cl]; exact h)
end
end DI

/-! DI, part 15: objects with fields; dicts with pairs as keys. -/
namespace DI
open L2
open PySem.Spec
open PyProof.Rows hiding St
open PySem

section
variable {v : Ev} {D : Nat → Df} {n : Nat} {W : WX} {σ : St} {H : Hp} {Q : VK} {nx bk ct : St → Hp → Prop} {rt : VK} {K : PySem.W.Frag} {w : Wd}
/-- a field, read -/
def KFl (C : Addr) (f : Str) (Q : VK) : VK := fun x H1 => ∃ a dx fs z, x = .ref a ∧ H1 a = some (.ins C dx fs) ∧ fs.lookup f = some z ∧ Q z H1
theorem x_fld {C : Nat} {o : Xp} {f : Str} (h : o.den v W σ H (KFl (v.cls C) f Q)) : Xp.den v (.fld C o f) W σ H Q := h
theorem k_fl {C a dx : Addr} {f : Str} {fs : List (Str × V)} {z : V} (o : Op w a (.ins C dx fs)) (hl : fs.lookup f = some z) (h : Q z w.H) : KFl C f Q (.ref a) w.H := ⟨a, dx, fs, z, rfl, o.h, hl, h⟩
/-- a field, set -/
def KFs (v : Ev) (C : Nat) (o : Xp) (f : Str) (W : WX) (σ : St) (P : St → Hp → Prop) : VK := fun y H1 => o.den v W σ H1 fun x H2 => ∃ a dx fs, x = .ref a ∧ H2 a = some (.ins (v.cls C) dx fs) ∧ fs.length < 1000 ∧ P σ (upd H2 a (.ins (v.cls C) dx (putF f y fs)))
def KFt (C : Addr) (f : Str) (y : V) (σ : St) (P : St → Hp → Prop) : VK := fun x H2 => ∃ a dx fs, x = .ref a ∧ H2 a = some (.ins C dx fs) ∧ fs.length < 1000 ∧ P σ (upd H2 a (.ins C dx (putF f y fs)))
theorem r_fld {C : Nat} {o e : Xp} {f : Str} (h : e.den v W σ H (KFs v C o f W σ nx)) : Sm.den v (.fld C o f e) W ⟨nx, rt, bk, ct⟩ σ H := h
theorem k_fs {C : Nat} {o : Xp} {f : Str} {P : St → Hp → Prop} {y : V} (h : o.den v W σ H (KFt (v.cls C) f y σ P)) : KFs v C o f W σ P y H := h
theorem k_ft {C a dx : Addr} {f : Str} {fs gs : List (Str × V)} {y : V} {P : St → Hp → Prop} (o : Op w a (.ins C dx fs)) (hl : fs.length < 1000) (hg : putF f y fs = gs) (h : ∀ w', Ex [a] w w' → Op w' a (.ins C dx gs) → P σ w'.H) : KFt C f y σ P (.ref a) w.H := by
  subst hg
  exact ⟨a, dx, fs, rfl, o.h, hl, h (w.put a _) (ex_set o) (op_set o)⟩
/-- a method of an own class -/
def KMe (v : Ev) (m C : Nat) (nm : Str) (es : Xps) (W : WX) (σ : St) (Q : VK) : VK := fun x H1 => ∃ a dx fs, x = .ref a ∧ H1 a = some (.ins (v.cls C) dx fs) ∧ fs.lookup nm = none ∧
  es.den v W σ H1 fun vs H2 => v.sp m (.ref a :: vs) H2 Q fun c d H3 => W c d σ H3
def KMc (v : Ev) (m : Nat) (a : Addr) (W : WX) (σ : St) (Q : VK) : List V → Hp → Prop := fun vs H2 => v.sp m (.ref a :: vs) H2 Q fun c d H3 => W c d σ H3
theorem e_meth {m C : Nat} {nm : Str} {o : Xp} {es : Xps} (h : o.den v W σ H (KMe v m C nm es W σ Q)) : Xp.den v (.meth m C nm o es) W σ H Q := h
theorem k_me {m C : Nat} {nm : Str} {es : Xps} {a dx : Addr} {fs : List (Str × V)} (o : Op w a (.ins (v.cls C) dx fs)) (hn : fs.lookup nm = none) (h : es.den v W σ w.H (KMc v m a W σ Q)) : KMe v m C nm es W σ Q (.ref a) w.H := ⟨a, dx, fs, rfl, o.h, hn, h⟩
theorem k_mc {m : Nat} {a : Addr} {vs : List V} (h : spOf v D n m (.ref a :: vs) H Q fun c d H2 => W c d σ H2) : KMc (evAt v D n) m a W σ Q vs H := h
/-- an object of an own class is made -/
def KMk (v : Ev) (C f : Nat) (W : WX) (σ : St) (Q : VK) : List V → Hp → Prop := fun vs H1 => ∀ x dx, H1 x = none → H1 dx = none → dx ≠ x →
  v.sp f (.ref x :: vs) (upd (upd H1 dx (.own x)) x (.ins (v.cls C) dx [])) (fun u H2 => u = .non ∧ Q (.ref x) H2) fun c d H2 => W c d σ H2
theorem e_mk {C f : Nat} {es : Xps} (h : es.den v W σ H (KMk v C f W σ Q)) : Xp.den v (.mk C f es) W σ H Q := h
theorem k_mk {C f : Nat} {vs : List V} (h : ∀ w' x dx, Ex [] w w' → w.H x = none → Op w' x (.ins (v.cls C) dx []) → spOf v D n f (.ref x :: vs) w'.H (fun u H2 => u = .non ∧ Q (.ref x) H2) fun c d H2 => W c d σ H2) : KMk (evAt v D n) C f W σ Q vs w.H := fun x dx hx hd hne => by
  have e1 := ex_new (o := .own x) hd
  have hx1 : (w.put dx (.own x)).H x = none := by
    show upd w.H dx (.own x) x = none
    rw [upd_ne (Ne.symm hne)]; exact hx
  have e2 := ex_new (o := .ins (v.cls C) dx []) hx1
  exact h ((w.put dx (.own x)).put x (.ins (v.cls C) dx [])) x dx (e1.t0 e2) hx (op_new hx1)
theorem e_gI {i : Nat} {z : V} (hg : v.gv i = z) (h : Q z H) : Xp.den (evAt v D n) (.g i) W σ H Q := by
  show Q (v.gv i) H
  rw [hg]; exact h
/-! dicts with pairs as keys -/
theorem c_in_dT {a b : Addr} {P : Bool → Hp → Prop} {kvs : List (List Key × V)} {k : List Key} (o : w.H a = some (.dT kvs)) (hy : w.H b = some (.tup (k.map kV))) (h : P (valV kvs k).isSome w.H) : KC2 K .In (.ref b) P (.ref a) w.H := RIn.dict (DGet.t o hy) h
theorem i_dT {a b : Addr} {kvs : List (List Key × V)} {k : List Key} {z : V} (o : w.H a = some (.dT kvs)) (hy : w.H b = some (.tup (k.map kV))) (hz : valV kvs k = some z) (h : Q z w.H) : KI2 K (.ref a) Q (.ref b) w.H :=
  RIxR.dict (by have := DGet.t o hy; rwa [hz] at this) h
/-- a pair of ints as a key -/
abbrev pk (p : Int × Int) : List Key := [.inl p.1, .inl p.2]
abbrev dp (p : Int × Int) : PyData := .tuple [.int p.1, .int p.2]
theorem Dv.pair {x : V} {i j : Int} (h : Dv w x (.tuple [.int i, .int j])) : ∃ b, x = .ref b ∧ w.S b ∧ w.H b = some (.tup [.int i, .int j]) := by
  obtain ⟨b, xs, e, s, hb, r⟩ := h.of_tup
  cases r with
  | cons a r => cases a; cases r with
    | cons c r => cases c; cases r; exact ⟨b, e, s, hb⟩
theorem c_in_pair {a : Addr} {x : V} {P : Bool → Hp → Prop} {kvs : List (List Key × V)} {i j : Int} (hx : Dv w x (.tuple [.int i, .int j])) (o : w.H a = some (.dT kvs)) (h : P (valV kvs (pk (i, j))).isSome w.H) : KC2 K .In x P (.ref a) w.H := by
  obtain ⟨b, rfl, s, hb⟩ := hx.pair
  exact c_in_dT (k := pk (i, j)) o hb h
theorem i_pair {a : Addr} {x : V} {kvs : List (List Key × V)} {i j : Int} {z : V} (hx : Dv w x (.tuple [.int i, .int j])) (o : w.H a = some (.dT kvs)) (hz : valV kvs (pk (i, j)) = some z) (h : Q z w.H) : KI2 K (.ref a) Q x w.H := by
  obtain ⟨b, rfl, s, hb⟩ := hx.pair
  exact i_dT (k := pk (i, j)) o hb hz h
theorem k_set_pair {a : Addr} {x y : V} {kvs : List (List Key × V)} {i j : Int} {P : St → Hp → Prop} (hx : Dv w x (.tuple [.int i, .int j])) (o : Op w a (.dT kvs)) (hl : kvs.length < sizeLine) (h : ∀ w', Ex [a] w w' → Op w' a (.dT (putK kvs (pk (i, j)) y)) → P σ w'.H) : KSet P (.ref a) y σ x w.H := by
  obtain ⟨b, rfl, s, hb⟩ := hx.pair
  exact k_set_dT (k := pk (i, j)) o hb hl h
/-! name, name = value, value -/
def KPr (i j : Nat) (P : St → Hp → Prop) (σ : St) : List V → Hp → Prop := fun vs H1 => ∃ v w, vs = [v, w] ∧ P ((σ.set i (some v)).set j (some w)) H1
theorem r_par {i j : Nat} {a b : Xp} (h : Xps.den v (.cons a (.cons b .nil)) W σ H (KPr i j nx σ)) : Sm.den v (.par i j a b) W ⟨nx, rt, bk, ct⟩ σ H := h
theorem k_pr {i j : Nat} {P : St → Hp → Prop} {x y : V} (h : P ((σ.set i (some x)).set j (some y)) H) : KPr i j P σ [x, y] H := ⟨x, y, rfl, h⟩
def KPr3 (i j l : Nat) (P : St → Hp → Prop) (σ : St) : List V → Hp → Prop := fun vs H1 => ∃ u v w, vs = [u, v, w] ∧ P (((σ.set i (some u)).set j (some v)).set l (some w)) H1
theorem r_par3 {i j l : Nat} {a b c : Xp} (h : Xps.den v (.cons a (.cons b (.cons c .nil))) W σ H (KPr3 i j l nx σ)) : Sm.den v (.par3 i j l a b c) W ⟨nx, rt, bk, ct⟩ σ H := h
theorem k_pr3 {i j l : Nat} {P : St → Hp → Prop} {x y z : V} (h : P (((σ.set i (some x)).set j (some y)).set l (some z)) H) : KPr3 i j l P σ [x, y, z] H := ⟨x, y, z, rfl, h⟩
end
/-! truths that are known -/
section
variable {v : Ev} {W : WX} {σ : St} {H : Hp} {Q : VK} {P : Bool → Hp → Prop} {a b : Sms} {E : Ends} {t : Tt} {x y : Xp}
theorem kif_nt (h : b.den v W E σ H) : KIf v a b W E σ (!true) H := h
theorem kif_nf (h : a.den v W E σ H) : KIf v a b W E σ (!false) H := h
theorem kto_t (h : P true H) : KTO v t W σ P true H := h
theorem kto_f (h : t.den v W σ H P) : KTO v t W σ P false H := h
theorem kto_nt (h : t.den v W σ H P) : KTO v t W σ P (!true) H := h
theorem kto_nf (h : P true H) : KTO v t W σ P (!false) H := h
theorem kta_t (h : t.den v W σ H P) : KTA v t W σ P true H := h
theorem kta_f (h : P false H) : KTA v t W σ P false H := h
theorem kta_nt (h : P false H) : KTA v t W σ P (!true) H := h
theorem kta_nf (h : t.den v W σ H P) : KTA v t W σ P (!false) H := h
theorem ktn_t (h : P false H) : KTN P true H := h
theorem ktn_f (h : P true H) : KTN P false H := h
theorem kan_t (h : x.den v W σ H Q) : KAnd v x W σ Q (.bl true) H := h
theorem kan_f (h : Q (.bl false) H) : KAnd v x W σ Q (.bl false) H := h
theorem kor_t (h : Q (.bl true) H) : KOr v x W σ Q (.bl true) H := h
theorem kor_f (h : x.den v W σ H Q) : KOr v x W σ Q (.bl false) H := h
theorem kix_t (h : x.den v W σ H Q) : KIx v x y W Q σ true H := h
theorem kix_f (h : y.den v W σ H Q) : KIx v x y W Q σ false H := h
end
/-! ### lists of data, open -/
theorem Op.set_ne {w w' : Wd} {a b : Addr} {o : HO} (e : Ex [a] w w') (h : Op w b o) (n : b ≠ a) : Op w' b o := h.ex e (by simpa using n)
end DI

/-! DI, part 16: chains, slices, enumerate, zip, reversed; what is read from the written part. -/
namespace DI
open L2
open PySem.Spec
open PyProof.Rows hiding St
open PySem

section
variable {v : Ev} {D : Nat → Df} {n : Nat} {W : WX} {σ : St} {H : Hp} {Q : VK} {nx bk ct : St → Hp → Prop} {rt : VK} {K : PySem.W.Frag} {w w' : Wd}
theorem SqL.ex {T : List Addr} {a : Addr} {xs : List V} (e : Ex T w w') (h : SqL K w.H a xs) (n : a ∉ T) : SqL K w'.H a xs := by
  rcases h with (h | ⟨o, h⟩) | h
  · exact .inl (.inl (e.kp _ _ h n))
  · exact .inl (.inr ⟨o, e.kp _ _ h n⟩)
  · exact .inr h
theorem SqL.ex0 {a : Addr} {xs : List V} (e : Ex [] w w') (h : SqL K w.H a xs) : SqL K w'.H a xs := SqL.ex e h (by simp)
theorem SqT.ex {T : List Addr} {a : Addr} {xs : List V} (e : Ex T w w') (h : SqT K w.H a xs) (n : a ∉ T) : SqT K w'.H a xs := by
  rcases h with (h | ⟨o, h⟩) | h
  · exact .inl (.inl (e.kp _ _ h n))
  · exact .inl (.inr ⟨o, e.kp _ _ h n⟩)
  · exact .inr h
/-! chains -/
def KH1 (v : Ev) (o1 o2 : CmpOp) (b c : Xp) (W : WX) (σ : St) (P : Bool → Hp → Prop) : VK := fun x H1 => b.den v W σ H1 fun y H2 => rCmpB v.K o1 x y H2 fun k =>
  if k = true then c.den v W σ H2 fun z H3 => rCmpB v.K o2 y z H3 fun k' => P k' H3 else P false H2
def KH2 (v : Ev) (o1 o2 : CmpOp) (c : Xp) (W : WX) (σ : St) (P : Bool → Hp → Prop) (x : V) : VK := fun y H2 => rCmpB v.K o1 x y H2 fun k =>
  if k = true then c.den v W σ H2 fun z H3 => rCmpB v.K o2 y z H3 fun k' => P k' H3 else P false H2
def KH3 (v : Ev) (o2 : CmpOp) (c : Xp) (W : WX) (σ : St) (P : Bool → Hp → Prop) (y : V) : Bool → Hp → Prop := fun k H2 =>
  if k = true then c.den v W σ H2 (KC2 v.K o2 y P) else P false H2
theorem e_chn {o1 o2 : CmpOp} {a b c : Xp} (h : a.den v W σ H (KH1 v o1 o2 b c W σ (KBl Q))) : Xp.den v (.chn o1 o2 a b c) W σ H Q := h
theorem t_chn {o1 o2 : CmpOp} {a b c : Xp} {P : Bool → Hp → Prop} (h : a.den v W σ H (KH1 v o1 o2 b c W σ P)) : Tt.den v (.chn o1 o2 a b c) W σ H P := h
theorem k_h1 {o1 o2 : CmpOp} {b c : Xp} {P : Bool → Hp → Prop} {x : V} (h : b.den v W σ H (KH2 v o1 o2 c W σ P x)) : KH1 v o1 o2 b c W σ P x H := h
theorem k_h2 {o1 o2 : CmpOp} {c : Xp} {P : Bool → Hp → Prop} {x y : V} (h : KC2 v.K o1 x (KH3 v o2 c W σ P y) y H) : KH2 v o1 o2 c W σ P x y H := h
theorem k_h3 {o2 : CmpOp} {c : Xp} {P : Bool → Hp → Prop} {y : V} {k : Bool} (ht : k = true → c.den v W σ H (KC2 v.K o2 y P)) (hf : k = false → P false H) : KH3 v o2 c W σ P y k H := by
  cases k with
  | true => exact ht rfl
  | false => exact hf rfl
/-! slices -/
def KSa (v : Ev) (lo hi : Xpo) (W : WX) (σ : St) (Q : VK) : VK := fun x H1 => lo.den v W σ H1 fun l H2 => hi.den v W σ H2 fun u H3 => rSlAny v.K x l u H3 Q
def KSb (v : Ev) (hi : Xpo) (W : WX) (σ : St) (Q : VK) (x : V) : Option Int → Hp → Prop := fun l H2 => hi.den v W σ H2 fun u H3 => rSlAny v.K x l u H3 Q
def KSc (K : PySem.W.Frag) (Q : VK) (x : V) (l : Option Int) : Option Int → Hp → Prop := fun u H3 => rSlAny K x l u H3 Q
def KPa (P : Option Int → Hp → Prop) : VK := fun x H1 => ∃ i, x = .int i ∧ P (some i) H1
theorem e_slc {a : Xp} {lo hi : Xpo} (h : a.den v W σ H (KSa v lo hi W σ Q)) : Xp.den v (.sl a lo hi) W σ H Q := h
theorem k_sa {lo hi : Xpo} {x : V} (h : lo.den v W σ H (KSb v hi W σ Q x)) : KSa v lo hi W σ Q x H := h
theorem k_sb {hi : Xpo} {x : V} {l : Option Int} (h : hi.den v W σ H (KSc v.K Q x l)) : KSb v hi W σ Q x l H := h
theorem p_no {P : Option Int → Hp → Prop} (h : P none H) : Xpo.den v .no W σ H P := h
theorem p_so {e : Xp} {P : Option Int → Hp → Prop} (h : e.den v W σ H (KPa P)) : Xpo.den v (.so e) W σ H P := h
theorem k_pa {P : Option Int → Hp → Prop} {i : Int} (h : P (some i) H) : KPa P (.int i) H := ⟨i, rfl, h⟩
theorem k_scL {a : Addr} {xs : List V} {l u : Option Int} (h : SqL K w.H a xs) (q : KNew (.lst (cutV xs l u)) Q w.H) : KSc K Q (.ref a) l u w.H := RSlR.lst h q
theorem cutV_map {α : Type} (f : α → V) (xs : List α) (l u : Option Int) : cutV (xs.map f) l u = ((xs.drop (HT.sIx xs.length 0 l)).take (HT.sIx xs.length xs.length u - HT.sIx xs.length 0 l)).map f := by
  unfold cutV; rw [List.length_map, List.map_take, List.map_drop]
/-- the part of a list -/
def cutD {α : Type} (xs : List α) (l u : Option Int) : List α := (xs.drop (HT.sIx xs.length 0 l)).take (HT.sIx xs.length xs.length u - HT.sIx xs.length 0 l)
theorem cut_none {α : Type} {xs : List α} : cutD xs none none = xs := by
  unfold cutD; rw [HT.sIx_none, HT.sIx_none, List.drop_zero, Nat.sub_zero, List.take_length]
theorem cut_take {α : Type} {xs : List α} {k : Nat} : cutD xs none (some (k : Int)) = xs.take k := by
  unfold cutD
  rw [HT.sIx_none, HT.sIx_nat, List.drop_zero, Nat.sub_zero]
  rcases Nat.le_total k xs.length with h | h
  · rw [Nat.min_eq_left h]
  · rw [Nat.min_eq_right h, List.take_length, List.take_of_length_le h]
theorem cut_drop {α : Type} {xs : List α} {k : Nat} : cutD xs (some (k : Int)) none = xs.drop k := by
  unfold cutD
  rw [HT.sIx_none, HT.sIx_nat]
  rcases Nat.le_total k xs.length with h | h
  · rw [Nat.min_eq_left h, List.take_of_length_le (by simp)]
  · rw [Nat.min_eq_right h, List.drop_length, List.drop_of_length_le h]; simp
theorem cut_mid {α : Type} {xs : List α} {i j : Nat} : cutD xs (some (i : Int)) (some (j : Int)) = (xs.drop i).take (j - i) := by
  unfold cutD
  rw [HT.sIx_nat, HT.sIx_nat]
  rcases Nat.le_total i xs.length with h | h
  · rw [Nat.min_eq_left h]
    rcases Nat.le_total j xs.length with h' | h'
    · rw [Nat.min_eq_left h']
    · rw [Nat.min_eq_right h', List.take_of_length_le (by simp), List.take_of_length_le (by simp; omega)]
  · rw [Nat.min_eq_right h, List.drop_length, List.drop_of_length_le h]; simp
theorem cut_len {α : Type} {xs : List α} {l u : Option Int} : (cutD xs l u).length ≤ xs.length := by
  unfold cutD; rw [List.length_take, List.length_drop]; omega
theorem Dvs.take : ∀ {xs : List V} {ds : List PyData} (k : Nat), Dvs w xs ds → Dvs w (xs.take k) (ds.take k)
  | _, _, 0, _ => by simpa using Dvs.nil
  | _, _, k + 1, .nil => by simpa using Dvs.nil
  | _, _, k + 1, .cons h r => .cons h (Dvs.take k r)
theorem Dvs.drop : ∀ {xs : List V} {ds : List PyData} (k : Nat), Dvs w xs ds → Dvs w (xs.drop k) (ds.drop k)
  | _, _, 0, h => h
  | _, _, k + 1, .nil => .nil
  | _, _, k + 1, .cons h r => Dvs.drop k r
theorem Dvs.cut {xs : List V} {ds : List PyData} {l u : Option Int} (h : Dvs w xs ds) : Dvs w (cutV xs l u) (cutD ds l u) := by
  unfold cutV cutD
  rw [h.length]
  exact (h.drop _).take _
theorem cutD_map {α β : Type} (f : α → β) (xs : List α) (l u : Option Int) : cutD (xs.map f) l u = (cutD xs l u).map f := by
  unfold cutD; rw [List.length_map, List.map_take, List.map_drop]
/-- the part of sealed data -/
theorem k_scD {x : V} {ds : List PyData} {l u : Option Int} (hx : Dv w x (.list ds)) (q : ∀ w' y, Ex [] w w' → Dv w' y (.list (cutD ds l u)) → Q y w'.H) : KSc K Q x l u w.H := by
  obtain ⟨a, xs, rfl, s, e, r⟩ := hx.of_lst
  exact k_scL (sqL e) (new_lst r.cut q)
theorem k_scO {a : Addr} {xs : List V} {ds : List PyData} {l u : Option Int} (e : w.H a = some (.lst xs)) (r : Dvs w xs ds) (q : ∀ w' y, Ex [] w w' → Dv w' y (.list (cutD ds l u)) → Q y w'.H) : KSc K Q (.ref a) l u w.H :=
  k_scL (sqL e) (new_lst r.cut q)
theorem k_scF {a : Addr} {ns : List Int} {l u : Option Int} (h : SqL K w.H a (ns.map V.int)) (q : ∀ w' y, Ex [] w w' → Dv w' y (.list ((cutD ns l u).map .int)) → Q y w'.H) : KSc K Q (.ref a) l u w.H :=
  k_scL h (by rw [cutV_map]; exact new_lst (Dvs.ints _) q)
/-! what the given list holds -/
theorem f_lenF {a : Addr} {xs : List V} (h : SqL K w.H a xs) (q : Q (.int xs.length) w.H) : KBf K .len Q [.ref a] w.H := RLen.lst h q
theorem i_F {a : Addr} {xs : List V} {i : Int} {y : V} (h : SqL K w.H a xs) (hi : 0 ≤ i) (hy : xs[i.toNat]? = some y) (q : Q y w.H) : KI2 K (.ref a) Q (.int i) w.H := RIxR.lst h rfl (atI_pos hi hy) q
theorem i_FT {a : Addr} {xs : List V} {i : Int} {y : V} (h : SqT K w.H a xs) (hi : 0 ≤ i) (hy : xs[i.toNat]? = some y) (q : Q y w.H) : KI2 K (.ref a) Q (.int i) w.H := RIxR.tup h rfl (atI_pos hi hy) q
theorem f_lstF {a : Addr} {xs : List V} (h : SqL K w.H a xs) (q : KNew (.lst xs) Q w.H) : KBf K .list Q [.ref a] w.H := RLst.lst h q
theorem f_lstT {x : V} {ds : List PyData} (hx : Dv w x (.tuple ds)) (h : ∀ w' y, Ex [] w w' → Dv w' y (.list ds) → Q y w'.H) : KBf K .list Q [x] w.H := by
  obtain ⟨a, xs, rfl, s, e, r⟩ := hx.of_tup
  exact RLst.tup (sqT e) (new_lst r h)
/-! pairs, raw -/
theorem g_tupR {gs : Tgs} {P : St → Hp → Prop} {T : Addr} {xs : List V} (h : w.H T = some (.tup xs)) (hn : xs.length = gs.len) (k : KTs v gs W P xs σ w.H) : Tg.den v (.tup gs) W (.ref T) σ w.H P :=
  .inl ⟨T, xs, rfl, sqT h, hn, k⟩
/-! enumerate -/
def KEn (K : PySem.W.Frag) (R : It → Hp → Prop) : List V → Hp → Prop := fun vs H1 => ∃ a xs, vs = [.ref a] ∧ SqL K H1 a xs ∧ R (Ite K a) H1
theorem q_enm {e : Xp} {R : It → Hp → Prop} (h : Xps.den v (.cons e .nil) W σ H (KEn v.K R)) : Sq.den v (.enm e) W σ H R := h
theorem k_en {a : Addr} {xs : List V} {R : It → Hp → Prop} (h : SqL K w.H a xs) (r : R (Ite K a) w.H) : KEn K R [.ref a] w.H := ⟨a, xs, rfl, h, r⟩
theorem k_for_enm {a : Addr} {xs : List V} {g : TG} {tb : TS} (Inv : Nat → St → Wd → Prop) (hk : ∀ i σ w', Inv i σ w' → SqL K w'.H a xs) (h0 : Inv 0 σ w)
    (hs : ∀ (i : Nat) x σ w' w2 T, xs[i]? = some x → Inv i σ w' → Ex [] w' w2 → w2.H T = some (.tup [.int i, x]) → g (.ref T) σ w2.H fun σ2 H2 => tb ⟨KIs (Inv (i + 1)), rt, nx, KIs (Inv (i + 1))⟩ σ2 H2)
    (hd : ∀ σ w', Inv xs.length σ w' → nx σ w'.H) : KFor g tb ⟨nx, rt, bk, ct⟩ σ (Ite K a) w.H := by
  refine ⟨fun i m σ H => m = xs.length - i ∧ i ≤ xs.length ∧ KIs (Inv i) σ H, ⟨xs.length, by simp, Nat.zero_le _, k_is h0⟩, ?_⟩
  rintro i m σ H ⟨rfl, hi, w', rfl, p⟩
  have q := hk i σ w' p
  by_cases hlt : i < xs.length
  · refine .inr ⟨⟨xs, xs[i], q, by simp [hlt]⟩, KIs (Inv (i + 1)), fun σ' H' p' => ⟨xs.length - (i + 1), by omega, rfl, hlt, p'⟩, fun z H' y => ?_⟩
    obtain ⟨T, x, rfl, hT, rfl, f⟩ := y
    exact hs i x σ w' (w'.put T _) T (f xs q) p (ex_new hT) upd_same
  · have e : i = xs.length := by omega
    subst e
    exact .inl ⟨⟨xs, q, Nat.le_refl _⟩, hd σ w' p⟩
/-! a comprehension over a tuple -/
theorem k_lc_tup {a : Addr} {xs : List V} {g : TG} {tt : TT} {te : TE} {vs : List Nat} (h : ∀ w1 D, Ex [] w w1 → w.H D = none → Op w1 D (.lst []) → ∃ Inv : Nat → Wd → Prop, Inv 0 w1 ∧ (∀ i w', Inv i w' → SqT K w'.H a xs) ∧
    (∀ i x w', xs[i]? = some x → Inv i w' → g x (wipe σ vs) w'.H (KLb tt te vs σ D (Inv (i + 1)))) ∧ ∀ w', Inv xs.length w' → Q (.ref D) w'.H) : KLc g tt te vs σ Q (Itt K a) w.H := fun D hD => by
  obtain ⟨Inv, h0, hk, hs, hd⟩ := h (w.put D (.lst [])) D (ex_new hD) hD (op_new hD)
  exact lc_tup (xs := xs) (Qd := Q (.ref D)) (fun i => KIw (Inv i)) ⟨_, rfl, h0⟩ (fun i H hi ⟨w', e, p⟩ => by subst e; exact hk i w' p) (fun i x H hx ⟨w', e, p⟩ => by subst e; exact hs i x w' hx p) fun H ⟨w', e, p⟩ => by subst e; exact hd w' p
/-! comprehensions that make one thing of each -/
theorem k_lc_D {x : V} {ds : List PyData} {g : TG} {tt : TT} {te : TE} {vs : List Nat} (hx : Dv w x (.list ds)) (h : ∀ w1 D, Ex [] w w1 → w.H D = none → Op w1 D (.lst []) → ∃ Inv : Nat → Wd → Prop, Inv 0 w1 ∧ (∀ i w', Inv i w' → ∃ T, Ex T w w') ∧
    (∀ i d y w', ds[i]? = some d → Dv w' y d → Inv i w' → g y (wipe σ vs) w'.H (KLb tt te vs σ D (Inv (i + 1)))) ∧ ∀ w', Inv ds.length w' → Q (.ref D) w'.H) : KLs K (KLc g tt te vs σ Q) x w.H := by
  refine k_lsD hx fun a xs e s ha r => ?_
  refine k_lc_lst (xs := xs) fun w1 D e1 hD o1 => ?_
  obtain ⟨Inv, h0, hk, hs, hd⟩ := h w1 D e1 hD o1
  refine ⟨Inv, h0, fun i w' p => ?_, fun i y w' hy p => ?_, fun w' p => hd w' (by rw [← r.length]; exact p)⟩
  · obtain ⟨T, ex⟩ := hk i w' p
    exact sqL (ex.keepL s ha)
  · obtain ⟨T, ex⟩ := hk i w' p
    obtain ⟨d, hd, hv⟩ := r.get' hy
    exact hs i d y w' hd (hv.ex ex) p
theorem k_lc_DT {x : V} {ds : List PyData} {g : TG} {tt : TT} {te : TE} {vs : List Nat} (hx : Dv w x (.tuple ds)) (h : ∀ w1 D, Ex [] w w1 → w.H D = none → Op w1 D (.lst []) → ∃ Inv : Nat → Wd → Prop, Inv 0 w1 ∧ (∀ i w', Inv i w' → ∃ T, Ex T w w') ∧
    (∀ i d y w', ds[i]? = some d → Dv w' y d → Inv i w' → g y (wipe σ vs) w'.H (KLb tt te vs σ D (Inv (i + 1)))) ∧ ∀ w', Inv ds.length w' → Q (.ref D) w'.H) : KLt K (KLc g tt te vs σ Q) x w.H := by
  refine k_ltD hx fun a xs e s ha r => ?_
  refine k_lc_tup (xs := xs) fun w1 D e1 hD o1 => ?_
  obtain ⟨Inv, h0, hk, hs, hd⟩ := h w1 D e1 hD o1
  refine ⟨Inv, h0, fun i w' p => ?_, fun i y w' hy p => ?_, fun w' p => hd w' (by rw [← r.length]; exact p)⟩
  · obtain ⟨T, ex⟩ := hk i w' p
    exact sqT (ex.keepL s ha)
  · obtain ⟨T, ex⟩ := hk i w' p
    obtain ⟨d, hd, hv⟩ := r.get' hy
    exact hs i d y w' hd (hv.ex ex) p
/-- the turn of such a comprehension -/
def KMk1 (te : TE) (vs : List Nat) (σ0 : St) (R : VK) : St → Hp → Prop := fun σ2 H2 => wipe σ2 vs = wipe σ0 vs ∧ te σ2 H2 R
theorem k_mk1 {te : TE} {vs : List Nat} {σ0 : St} {R : VK} (hw : wipe σ vs = wipe σ0 vs) (h : te σ H R) : KMk1 te vs σ0 R σ H := ⟨hw, h⟩
def InvM (w : Wd) (D : Addr) (f : Nat → PyData) (i : Nat) (w' : Wd) : Prop := Ex [] w w' ∧ ∃ zs, Op w' D (.lst zs) ∧ Dvs w' zs ((List.range i).map f)
theorem invM_next {D : Addr} {f : Nat → PyData} {i : Nat} {w1 w2 : Wd} {x : V} (hD : w.H D = none) (p : InvM w D f i w1) (e : Ex [] w1 w2) (d : Dv w2 x (f i)) (hl : i < 1000000) : KAp D (InvM w D f (i + 1)) x w2.H := by
  obtain ⟨E, zs, o, r⟩ := p
  have rl := r.length
  rw [List.length_map, List.length_range] at rl
  refine k_ap (o.ex e (by simp)) (by rw [rl, sizeLine_eq]; omega) fun w3 e3 o3 => ⟨(E.t0 e).tf e3 hD, _, o3, ?_⟩
  rw [List.range_succ, List.map_append]
  exact ((r.ex e).ex e3).app (.cons (d.ex e3) .nil)
theorem k_lc_mk {x : V} {ds : List PyData} {g : TG} {te : TE} {vs : List Nat} (hx : Dv w x (.list ds)) (f : Nat → PyData) (hn : ds.length ≤ 1000000)
    (hs : ∀ i d y w' (R : VK), ds[i]? = some d → Ex [] w w' → Dv w' y d → (∀ w2 z, Ex [] w' w2 → Dv w2 z (f i) → R z w2.H) → g y (wipe σ vs) w'.H (KMk1 te vs σ R))
    (hd : ∀ w' p zs, Ex [] w w' → w.H p = none → Op w' p (.lst zs) → Dvs w' zs ((List.range ds.length).map f) → Q (.ref p) w'.H) : KLs K (KLc g (Tto.den v .no W) te vs σ Q) x w.H := by
  refine k_lc_D hx fun w1 D e1 hD o1 => ⟨InvM w D f, ⟨e1, [], o1, .nil⟩, fun i w' p => ⟨[], p.1⟩, fun i d y w' hd' dy p => ?_, fun w' p => ?_⟩
  · have hi : i < ds.length := by
      rcases Nat.lt_or_ge i ds.length with h | h
      · exact h
      · rw [List.getElem?_eq_none h] at hd'; cases hd'
    exact hs i d y w' (KAp D (InvM w D f (i + 1))) hd' p.1 dy fun w2 z e d => invM_next hD p e d (by omega)
  · obtain ⟨E, zs, o, r⟩ := p
    exact hd w' D zs E hD o r
theorem k_lc_mkT {x : V} {ds : List PyData} {g : TG} {te : TE} {vs : List Nat} (hx : Dv w x (.tuple ds)) (f : Nat → PyData) (hn : ds.length ≤ 1000000)
    (hs : ∀ i d y w' (R : VK), ds[i]? = some d → Ex [] w w' → Dv w' y d → (∀ w2 z, Ex [] w' w2 → Dv w2 z (f i) → R z w2.H) → g y (wipe σ vs) w'.H (KMk1 te vs σ R))
    (hd : ∀ w' p zs, Ex [] w w' → w.H p = none → Op w' p (.lst zs) → Dvs w' zs ((List.range ds.length).map f) → Q (.ref p) w'.H) : KLt K (KLc g (Tto.den v .no W) te vs σ Q) x w.H := by
  refine k_lc_DT hx fun w1 D e1 hD o1 => ⟨InvM w D f, ⟨e1, [], o1, .nil⟩, fun i w' p => ⟨[], p.1⟩, fun i d y w' hd' dy p => ?_, fun w' p => ?_⟩
  · have hi : i < ds.length := by
      rcases Nat.lt_or_ge i ds.length with h | h
      · exact h
      · rw [List.getElem?_eq_none h] at hd'; cases hd'
    exact hs i d y w' (KAp D (InvM w D f (i + 1))) hd' p.1 dy fun w2 z e d => invM_next hD p e d (by omega)
  · obtain ⟨E, zs, o, r⟩ := p
    exact hd w' D zs E hD o r
theorem k_lc_mkR {m : Nat} {g : TG} {te : TE} {vs : List Nat} (n : Nat) (hm : m = n) (f : Nat → PyData) (hn : n ≤ 1000000)
    (hs : ∀ (i : Nat) w' (R : VK), i < n → Ex [] w w' → (∀ w2 z, Ex [] w' w2 → Dv w2 z (f i) → R z w2.H) → g (.int i) (wipe σ vs) w'.H (KMk1 te vs σ R))
    (hd : ∀ w' p zs, Ex [] w w' → w.H p = none → Op w' p (.lst zs) → Dvs w' zs ((List.range n).map f) → Q (.ref p) w'.H) : KLc g (Tto.den v .no W) te vs σ Q (Itr 0 m) w.H := by
  subst hm
  refine k_lc_n m rfl fun w1 D e1 hD o1 => ⟨InvM w D f, ⟨e1, [], o1, .nil⟩, fun i w' hi p => ?_, fun w' p => ?_⟩
  · exact hs i w' (KAp D (InvM w D f (i + 1))) hi p.1 fun w2 z e d => invM_next hD p e d (by omega)
  · obtain ⟨E, zs, o, r⟩ := p
    exact hd w' D zs E hD o r
/-- ints made so -/
theorem Dvs.ints_of {zs : List V} {n : Nat} {f : Nat → Int} (h : Dvs w zs ((List.range n).map fun i => .int (f i))) : zs = ((List.range n).map f).map V.int := by
  refine Dvs.of_ints (w := w) ?_
  rw [List.map_map]; exact h
theorem range_map {α β : Type} {z : α} (f : α → β) (l : List α) : (List.range l.length).map (fun i => f (l.getD i z)) = l.map f := by
  refine List.ext_getElem? fun i => ?_
  rw [List.getElem?_map, List.getElem?_map]
  by_cases h : i < l.length
  · rw [List.getElem?_range h, List.getElem?_eq_getElem h]
    show some (f (l.getD i z)) = some (f l[i])
    rw [List.getD_eq_getElem?_getD, List.getElem?_eq_getElem h]; rfl
  · rw [List.getElem?_eq_none (by simpa using h), List.getElem?_eq_none (by simpa using h)]; rfl
theorem get_map {α β : Type} {z : α} {f : α → β} {l : List α} {i : Nat} {d : β} (h : (l.map f)[i]? = some d) : i < l.length ∧ d = f (l.getD i z) := by
  rw [List.getElem?_map] at h
  obtain ⟨x, hx, rfl⟩ := Option.map_eq_some_iff.mp h
  have hi : i < l.length := by
    rcases Nat.lt_or_ge i l.length with q | q
    · exact q
    · rw [List.getElem?_eq_none q] at hx; cases hx
  refine ⟨hi, ?_⟩
  rw [List.getD_eq_getElem?_getD, hx]; rfl
/-! sum, all, any -/
theorem f_sum {a : Addr} {ns : List Int} (h : w.H a = some (.lst (ns.map V.int))) (q : Q (.int ns.sum) w.H) : KBf K .sum Q [.ref a] w.H := ⟨ns, sqL h, q⟩
theorem f_all {a : Addr} {bs : List Bool} (h : w.H a = some (.lst (bs.map V.bl))) (q : Q (.bl (bs.all id)) w.H) : KBf K .all Q [.ref a] w.H := ⟨bs, sqL h, q⟩
theorem f_any {a : Addr} {bs : List Bool} (h : w.H a = some (.lst (bs.map V.bl))) (q : Q (.bl (bs.any id)) w.H) : KBf K .any Q [.ref a] w.H := ⟨bs, sqL h, q⟩
/-! sealing anything -/
theorem seal_any {a : Addr} {o : HO} (h : Op w a o) : ∃ w', w'.H = w.H ∧ Ex [a] w w' ∧ w'.S a ∧ w'.H a = some o :=
  ⟨w.seal a o h.h, rfl, ex_seal h, .inr rfl, h.h⟩
theorem k_ltR {a : Addr} {xs : List V} {R : It → Hp → Prop} (e : w.H a = some (.tup xs)) (h : R (Itt K a) w.H) : KLt K R (.ref a) w.H := ⟨a, rfl, ⟨xs, sqT e⟩, h⟩
/-- a field of an object, open or sealed -/
theorem k_flH {C a dx : Addr} {f : Str} {fs : List (Str × V)} {z : V} (o : w.H a = some (.ins C dx fs)) (hl : fs.lookup f = some z) (h : Q z w.H) : KFl C f Q (.ref a) w.H := ⟨a, dx, fs, z, rfl, o, hl, h⟩
theorem k_meH {m C : Nat} {nm : Str} {es : Xps} {a dx : Addr} {fs : List (Str × V)} (o : w.H a = some (.ins (v.cls C) dx fs)) (hn : fs.lookup nm = none) (h : es.den v W σ w.H (KMc v m a W σ Q)) : KMe v m C nm es W σ Q (.ref a) w.H := ⟨a, dx, fs, rfl, o, hn, h⟩
/-! zip -/
def KZp (K : PySem.W.Frag) (R : It → Hp → Prop) : List V → Hp → Prop := fun vs H1 => ∃ a b xs ys, vs = [.ref a, .ref b] ∧ ((SqL K H1 a xs ∧ SqL K H1 b ys ∧ R (Itz K a b) H1) ∨ (SqT K H1 a xs ∧ SqT K H1 b ys ∧ R (RZ.ItzT K a b) H1))
theorem q_zip {e e' : Xp} {R : It → Hp → Prop} (h : Xps.den v (.cons e (.cons e' .nil)) W σ H (KZp v.K R)) : Sq.den v (.zip e e') W σ H R := h
theorem k_zp {a b : Addr} {xs ys : List V} {R : It → Hp → Prop} (h : SqL K w.H a xs) (h' : SqL K w.H b ys) (r : R (Itz K a b) w.H) : KZp K R [.ref a, .ref b] w.H := ⟨a, b, xs, ys, rfl, .inl ⟨h, h', r⟩⟩
theorem k_for_zip {a b : Addr} {xs ys : List V} {g : TG} {tb : TS} (hl : xs.length = ys.length) (Inv : Nat → St → Wd → Prop) (hk : ∀ i σ w', Inv i σ w' → SqL K w'.H a xs ∧ SqL K w'.H b ys) (h0 : Inv 0 σ w)
    (hs : ∀ (i : Nat) x y σ w' w2 T, xs[i]? = some x → ys[i]? = some y → Inv i σ w' → Ex [] w' w2 → w2.H T = some (.tup [x, y]) → g (.ref T) σ w2.H fun σ2 H2 => tb ⟨KIs (Inv (i + 1)), rt, nx, KIs (Inv (i + 1))⟩ σ2 H2)
    (hd : ∀ σ w', Inv xs.length σ w' → nx σ w'.H) : KFor g tb ⟨nx, rt, bk, ct⟩ σ (Itz K a b) w.H :=
  RZ.for_zipL (xs := xs) (ys := ys) hl (fun i => KIs (Inv i)) (k_is h0) (fun i σ H ⟨w', e, p⟩ => by subst e; exact hk i σ w' p)
    (fun i x y T σ H hx hy ⟨w', e, p⟩ hT => by subst e; exact hs i x y σ w' (w'.put T _) T hx hy p (ex_new hT) upd_same) fun σ H ⟨w', e, p⟩ => by subst e; exact hd σ w' p
/-! reversed -/
def KRv (K : PySem.W.Frag) (R : It → Hp → Prop) : VK := fun x H1 => ∃ (a : Addr) (xs : List V), x = .ref a ∧ ((SqL K H1 a xs ∧ R (Itv K a xs.length) H1) ∨ (SqT K H1 a xs ∧ R (RT.ItvT K a xs.length) H1))
/-- reversed(a text) -/
def KRvT (R : It → Hp → Prop) : VK := fun x H1 => ∃ z : Str, x = .str z ∧ z.length ≤ sizeLine ∧ R (RX.ItsR z) H1
theorem q_rvT {e : Xp} {R : It → Hp → Prop} (h : e.den v W σ H (KRvT R)) : Sq.den v (.rvT e) W σ H R := h
theorem k_rvT {z : Str} {R : It → Hp → Prop} (hz : z.length ≤ sizeLine) (r : R (RX.ItsR z) H) : KRvT R (.str z) H := ⟨z, rfl, hz, r⟩
theorem k_for_rvT {z : Str} {g : TG} {tb : TS} {w : Wd} (Inv : Nat → St → Wd → Prop) (h0 : Inv 0 σ w)
    (hs : ∀ (i c : Nat) σ w', z.cps[z.cps.size - 1 - i]? = some c → i < z.cps.size → Inv i σ w' → g (.str ⟨#[c]⟩) σ w'.H fun σ2 H2 => tb ⟨KIs (Inv (i + 1)), rt, nx, KIs (Inv (i + 1))⟩ σ2 H2)
    (hd : ∀ σ w', Inv z.cps.size σ w' → nx σ w'.H) : KFor g tb ⟨nx, rt, bk, ct⟩ σ (RX.ItsR z) w.H := by
  refine ⟨fun i m σ H => m = z.cps.size - i ∧ i ≤ z.cps.size ∧ KIs (Inv i) σ H, ⟨z.cps.size, by simp, Nat.zero_le _, k_is h0⟩, ?_⟩
  rintro i m σ H ⟨rfl, hi, w', rfl, p⟩
  by_cases hlt : i < z.cps.size
  · refine .inr ⟨hlt, KIs (Inv (i + 1)), fun σ' H' p' => ⟨z.cps.size - (i + 1), by omega, rfl, hlt, p'⟩, fun y H' q => ?_⟩
    obtain ⟨rfl, c, hc, rfl⟩ := q
    exact hs i c σ w' hc hlt p
  · have e : i = z.cps.size := by omega
    subst e
    exact .inl ⟨Nat.le_refl _, hd σ w' p⟩
theorem q_rvs {e : Xp} {R : It → Hp → Prop} (h : e.den v W σ H (KRv v.K R)) : Sq.den v (.rvs e) W σ H R := h
theorem k_rvL {a : Addr} {xs : List V} {R : It → Hp → Prop} (h : SqL K w.H a xs) (r : R (Itv K a xs.length) w.H) : KRv K R (.ref a) w.H := ⟨a, xs, rfl, .inl ⟨h, r⟩⟩
theorem k_for_rvL {a : Addr} {xs : List V} {g : TG} {tb : TS} (Inv : Nat → St → Wd → Prop) (hk : ∀ i σ w', Inv i σ w' → SqL K w'.H a xs) (h0 : Inv 0 σ w)
    (hs : ∀ (i : Nat) x σ w', i < xs.length → xs[xs.length - 1 - i]? = some x → Inv i σ w' → g x σ w'.H fun σ2 H2 => tb ⟨KIs (Inv (i + 1)), rt, nx, KIs (Inv (i + 1))⟩ σ2 H2)
    (hd : ∀ σ w', Inv xs.length σ w' → nx σ w'.H) : KFor g tb ⟨nx, rt, bk, ct⟩ σ (Itv K a xs.length) w.H :=
  RT.for_Itv (fun i => KIs (Inv i)) (k_is h0) (fun i σ H ⟨w', e, p⟩ => by subst e; exact hk i σ w' p)
    (fun i x σ H hi hx ⟨w', e, p⟩ => by subst e; exact hs i x σ w' hi hx p) fun σ H ⟨w', e, p⟩ => by subst e; exact hd σ w' p
end
/-- a divisor's size -/
theorem log_small {m : Int} (h : m.natAbs < 2 ^ 9000 := by decide) : m.natAbs.log2 < 9000 := by
  rcases Nat.eq_zero_or_pos m.natAbs with e | e
  · rw [e]; decide
  · exact (Nat.log2_lt (by omega)).mpr h
theorem log_small' {m : Int} (h0 : 0 ≤ m) (h1 : m < 2 ^ 64) : m.natAbs.log2 < 9000 := log_small (Nat.lt_of_lt_of_le (show m.natAbs < 2 ^ 64 by omega) (Nat.pow_le_pow_right (by decide) (by decide)))
end DI

/-! DI, part 17: keyword calls, bit_length, range with a step; texts by their signs. -/
namespace DI
open L2
open PySem.Spec
open PyProof.Rows hiding St
open PySem

section
variable {v : Ev} {D : Nat → Df} {n : Nat} {W : WX} {σ : St} {H : Hp} {Q : VK} {nx bk ct : St → Hp → Prop} {rt : VK} {w : Wd} {K : PySem.W.Frag}

/-! keyword calls -/
def KK1 (v : Ev) (f : Nat) (ks : Xps) (W : WX) (σ : St) (Q : VK) : List V → Hp → Prop := fun vs H => ks.den v W σ H fun zs H2 => zs.length = ks.len ∧ v.sp f (vs ++ zs) H2 Q fun c d H3 => W c d σ H3
def KK2 (v : Ev) (f l : Nat) (vs : List V) (W : WX) (σ : St) (Q : VK) : List V → Hp → Prop := fun zs H => zs.length = l ∧ v.sp f (vs ++ zs) H Q fun c d H3 => W c d σ H3
theorem e_callk {f : Nat} {es ks : Xps} (h : es.den v W σ H (KK1 v f ks W σ Q)) : Xp.den v (.callk f es ks) W σ H Q := h
theorem k_k1 {f : Nat} {ks : Xps} {vs : List V} (h : ks.den v W σ H (KK2 v f ks.len vs W σ Q)) : KK1 v f ks W σ Q vs H := h
theorem k_k2 {f l : Nat} {vs zs : List V} (hl : zs.length = l) (h : spOf v D n f (vs ++ zs) H Q fun c d H3 => W c d σ H3) : KK2 (evAt v D n) f l vs W σ Q zs H := ⟨hl, h⟩
/-! bit_length -/
def KBi (Q : VK) : VK := fun x H1 => ∃ i, x = .int i ∧ Q (.int (Builtin.Int.intBits i : Nat)) H1
theorem e_bits {a : Xp} (h : a.den v W σ H (KBi Q)) : Xp.den v (.bits a) W σ H Q := h
theorem k_bits {i : Int} (h : Q (.int (Builtin.Int.intBits i : Nat)) H) : KBi Q (.int i) H := ⟨i, rfl, h⟩
/-! range with a step -/
def KR3c (R : It → Hp → Prop) : List V → Hp → Prop := fun vs H1 => ∃ (i j c : Int) (n : Nat), vs = [.int i, .int j, .int c] ∧ RgC i j c n ∧ R (Itc i c n) H1
theorem q_rng3 {a b c : Xp} {R : It → Hp → Prop} (h : Xps.den v (.cons a (.cons b (.cons c .nil))) W σ H (KR3c R)) : Sq.den v (.rng3 a b c) W σ H R := h
theorem k_r3 {i j : Int} {R : It → Hp → Prop} (c : -(2 ^ 62) ≤ i ∧ i < 2 ^ 62 ∧ -(2 ^ 62) ≤ j ∧ j < 2 ^ 62) (h : R (Itc i (-1) (i - j).toNat) H) : KR3c R [.int i, .int j, .int (-1)] H :=
  ⟨i, j, -1, _, rfl, RgC.neg c.1 c.2.1 c.2.2.1 c.2.2.2, h⟩
theorem k_for_rngC {lo c : Int} {m : Nat} {g : TG} {tb : TS} (Inv : Nat → St → Wd → Prop) (h0 : Inv 0 σ w)
    (hs : ∀ (i : Nat) σ w', i < m → Inv i σ w' → g (.int (lo + (i : Int) * c)) σ w'.H fun σ2 H2 => tb ⟨KIs (Inv (i + 1)), rt, nx, KIs (Inv (i + 1))⟩ σ2 H2)
    (hd : ∀ σ w', Inv m σ w' → nx σ w'.H) : KFor g tb ⟨nx, rt, bk, ct⟩ σ (Itc lo c m) w.H := by
  refine ⟨fun i k σ H => k = m - i ∧ i ≤ m ∧ KIs (Inv i) σ H, ⟨m, by simp, Nat.zero_le _, k_is h0⟩, ?_⟩
  rintro i k σ H ⟨rfl, hi, w', rfl, p⟩
  by_cases hlt : i < m
  · refine .inr ⟨hlt, KIs (Inv (i + 1)), fun σ' H' p' => ⟨m - (i + 1), by omega, rfl, hlt, p'⟩, fun z H' y => ?_⟩
    obtain ⟨rfl, rfl⟩ := y
    exact hs i σ w' hlt p
  · have e : i = m := by omega
    subst e
    exact .inl ⟨Nat.le_refl _, hd σ w' p⟩

/-! ### texts -/
theorem S_tl (x : Str) : S x.cps.toList = x := rfl
theorem S_len (a : List Nat) : (S a).length = a.length := by simp [S, Str.length]
theorem S_list (a : List Nat) : (S a).cps.toList = a := by simp [S]
theorem S_inj {a b : List Nat} (h : S a = S b) : a = b := by rw [← S_list a, ← S_list b, h]
theorem S_dec {a b : List Nat} : decide (S a = S b) = decide (a = b) := by
  by_cases h : a = b
  · subst h; simp
  · rw [decide_eq_false h, decide_eq_false (fun q => h (S_inj q))]
theorem S_cat (a b : List Nat) : S a ++ S b = S (a ++ b) := SX.S_cat a b
theorem o_addS {a b : List Nat} (c : a.length + b.length ≤ sizeLine) (h : Q (.str (S (a ++ b))) H) : KB2 K .Add (.str (S a)) Q (.str (S b)) H := o_adds (by rw [S_len, S_len]; exact c) (by rw [S_cat]; exact h)
theorem f_lenSS {s : List Nat} (hl : s.length ≤ sizeLine) (h : Q (.int s.length) H) : KBf K .len Q [.str (S s)] H := f_lenS (by rw [S_len]; exact hl) (by rw [S_len]; exact h)
theorem foldl_sing (c : Nat) : ∀ (k : Nat) (acc : Array Nat), (List.replicate k #[c]).foldl (· ++ ·) acc = acc ++ (List.replicate k c).toArray
  | 0, acc => by simp
  | k + 1, acc => by
    rw [List.replicate_succ, List.foldl_cons, foldl_sing c k, List.replicate_succ]
    refine Array.ext' ?_
    simp
theorem mul_sing (c : Nat) (k : Int) : Txt.mul (S [c]) k = S (List.replicate k.toNat c) := by
  unfold Txt.mul
  split
  · rename_i h
    rw [show k.toNat = 0 by omega]
    rfl
  · rename_i h
    split
    · rename_i h2
      simp only [Bool.or_eq_true, beq_iff_eq] at h2
      rcases h2 with h2 | h2
      · subst h2; rfl
      · cases h2
    · show (⟨(List.replicate k.toNat #[c]).foldl (· ++ ·) #[]⟩ : Str) = _
      rw [foldl_sing]
      simp [S]
theorem o_repS {c : Nat} {k : Int} (h1 : -1000000 ≤ k) (h2 : k ≤ 1000000) (h : Q (.str (S (List.replicate k.toNat c))) H) : KB2 K .Mult (.str (S [c])) Q (.int k) H := by
  refine ⟨⟨?_, fun h3 _ => ?_, fun h3 _ => ?_⟩, by rw [mul_sing]; exact h⟩
  · simp; omega
  · have e1 : ((S [c]).length : Int) = 1 := rfl
    rw [e1]
    have : 1 ≤ (2 ^ 63 - 1 : Int) / k := by
      rw [Int.le_ediv_iff_mul_le (by omega)]
      omega
    omega
  · have e1 : (S [c]).length = 1 := rfl
    rw [e1]
    unfold Builtin.Str.tooLong
    rw [decide_eq_false]
    rw [sizeLine_eq]
    omega
theorem cutS_S (a : List Nat) (l u : Option Int) : cutS (S a) l u = S (cutD a l u) := by
  unfold cutS cutD
  simp [S, Str.length]
theorem k_scS {a : List Nat} {l u : Option Int} (hl : a.length ≤ sizeLine) (q : Q (.str (S (cutD a l u))) H) : KSc K Q (.str (S a)) l u H := ⟨by rw [S_len]; exact hl, by rw [cutS_S]; exact q⟩
theorem i_S {a : List Nat} {i : Int} {c : Nat} (hl : a.length ≤ sizeLine) (hi : 0 ≤ i) (hc : a[i.toNat]? = some c) (q : Q (.str (S [c])) H) : KI2 K (.str (S a)) Q (.int i) H :=
  ⟨i, c, rfl, by rw [S_len]; exact hl, by rw [S_list]; exact atI_pos hi hc, q⟩
theorem c_eqT {a b : List Nat} {P : Bool → Hp → Prop} (h : P (decide (a = b)) H) : KC2 K .Eq (.str (S a)) P (.str (S b)) H := c_eqs (by rw [S_dec]; exact h)
theorem c_neT {a b : List Nat} {P : Bool → Hp → Prop} (h : P (!decide (a = b)) H) : KC2 K .NotEq (.str (S a)) P (.str (S b)) H := c_nes (by rw [S_dec]; exact h)
theorem c_inS {c : Nat} {z : List Nat} {P : Bool → Hp → Prop} (h : P (decide (c ∈ z)) H) : KC2 K .In (.str (S [c])) P (.str (S z)) H := RInS.sign c rfl (by rw [S_list]; exact h)
theorem c_niS {c : Nat} {z : List Nat} {P : Bool → Hp → Prop} (h : P (!decide (c ∈ z)) H) : KC2 K .NotIn (.str (S [c])) P (.str (S z)) H := RInS.sign c rfl (by rw [S_list]; exact h)
theorem k_trS {s : List Nat} {P : Bool → Hp → Prop} (hl : s.length ≤ sizeLine) (h : P (decide (s.length ≠ 0)) H) : KTr K P (.str (S s)) H := ⟨by rw [S_len]; exact hl, by rw [S_len]; exact h⟩
/-- str of a bit -/
theorem f_strb {i : Int} (h0 : i = 0 ∨ i = 1) (h : Q (.str (S [48 + i.toNat])) H) : KBf K .str Q [.int i] H := by
  rcases h0 with e | e
  · subst e; exact ⟨by decide, h⟩
  · subst e; exact ⟨by decide, h⟩
/-! what a text is walked by -/
def KTx (R : It → Hp → Prop) : VK := fun z H1 => ∃ x, z = .str x ∧ R (Its x) H1
theorem q_txt {e : Xp} {R : It → Hp → Prop} (h : e.den v W σ H (KTx R)) : Sq.den v (.txt e) W σ H R := h
theorem k_tx {x : Str} {R : It → Hp → Prop} (h : R (Its x) H) : KTx R (.str x) H := ⟨x, rfl, h⟩
theorem k_for_txt {cs : List Nat} {g : TG} {tb : TS} (Inv : Nat → St → Wd → Prop) (h0 : Inv 0 σ w)
    (hs : ∀ (i : Nat) c σ w', cs[i]? = some c → Inv i σ w' → g (.str (S [c])) σ w'.H fun σ2 H2 => tb ⟨KIs (Inv (i + 1)), rt, nx, KIs (Inv (i + 1))⟩ σ2 H2)
    (hd : ∀ σ w', Inv cs.length σ w' → nx σ w'.H) : KFor g tb ⟨nx, rt, bk, ct⟩ σ (Its (S cs)) w.H := by
  refine ⟨fun i k σ H => k = cs.length - i ∧ i ≤ cs.length ∧ KIs (Inv i) σ H, ⟨cs.length, by simp, Nat.zero_le _, k_is h0⟩, ?_⟩
  rintro i k σ H ⟨rfl, hi, w', rfl, p⟩
  by_cases hlt : i < cs.length
  · refine .inr ⟨by show i < (S cs).cps.size; simpa [S] using hlt, KIs (Inv (i + 1)), fun σ' H' p' => ⟨cs.length - (i + 1), by omega, rfl, hlt, p'⟩, fun z H' y => ?_⟩
    obtain ⟨rfl, c, hc, rfl⟩ := y
    exact hs i c σ w' (by simpa [S] using hc) p
  · have e : i = cs.length := by omega
    subst e
    exact .inl ⟨by show (S cs).cps.size ≤ _; simp [S], hd σ w' p⟩
/-! comprehensions that make a list of plain values: f of each place -/
def InvV (w : Wd) (D : Addr) (f : Nat → V) (i : Nat) (w' : Wd) : Prop := Ex [] w w' ∧ Op w' D (.lst ((List.range i).map f))
theorem invV_next {D : Addr} {f : Nat → V} {i : Nat} {w1 w2 : Wd} (hD : w.H D = none) (p : InvV w D f i w1) (e : Ex [] w1 w2) (hl : i < 1000000) : KAp D (InvV w D f (i + 1)) (f i) w2.H := by
  obtain ⟨E, o⟩ := p
  refine k_ap (o.ex e (by simp)) (by rw [List.length_map, List.length_range, sizeLine_eq]; omega) fun w3 e3 o3 => ⟨(E.t0 e).tf e3 hD, ?_⟩
  rw [List.range_succ, List.map_append]
  exact o3
/-- over a text -/
theorem k_lc_tx {cs : List Nat} {g : TG} {te : TE} {vs : List Nat} {W' : WX} (f : Nat → V) (hn : cs.length ≤ 1000000)
    (hs : ∀ (i c : Nat) w' (R : VK), cs[i]? = some c → Ex [] w w' → (∀ w2, Ex [] w' w2 → R (f c) w2.H) → g (.str (S [c])) (wipe σ vs) w'.H (KMk1 te vs σ R))
    (hd : ∀ w' p, Ex [] w w' → w.H p = none → Op w' p (.lst (cs.map f)) → Q (.ref p) w'.H) : KLc g (Tto.den v .no W') te vs σ Q (Its (S cs)) w.H := fun D hD => by
  have hf : ∀ i, (List.range i).map (fun j => f (cs.getD j 0)) = (List.range i).map (fun j => f (cs.getD j 0)) := fun _ => rfl
  refine ⟨fun i k H => k = cs.length - i ∧ i ≤ cs.length ∧ KIw (InvV w D (fun j => f (cs.getD j 0)) i) H, ⟨cs.length, by simp, Nat.zero_le _, w.put D (.lst []), rfl, ex_new hD, op_new hD⟩, ?_⟩
  rintro i k H ⟨rfl, hi, w', rfl, p⟩
  by_cases hlt : i < cs.length
  · refine .inr ⟨by show i < (S cs).cps.size; simpa [S] using hlt, KIw (InvV w D (fun j => f (cs.getD j 0)) (i + 1)), fun H' p' => ⟨cs.length - (i + 1), by omega, rfl, hlt, p'⟩, fun z H' y => ?_⟩
    obtain ⟨rfl, c, hc, rfl⟩ := y
    have hc : cs[i]? = some c := by simpa [S] using hc
    have e : cs.getD i 0 = c := by rw [List.getD_eq_getElem?_getD, hc]; rfl
    refine hs i c w' (KAp D (InvV w D (fun j => f (cs.getD j 0)) (i + 1))) hc p.1 fun w2 e2 => ?_
    have := invV_next (f := fun j => f (cs.getD j 0)) hD p e2 (by omega)
    rwa [e] at this
  · have e : i = cs.length := by omega
    subst e
    refine .inl ⟨by show (S cs).cps.size ≤ _; simp [S], hd w' D p.1 hD ?_⟩
    have o := p.2
    rwa [range_map] at o
/-- over a range -/
theorem k_lc_rv {m : Nat} {g : TG} {te : TE} {vs : List Nat} {W' : WX} (f : Nat → V) (hn : m ≤ 1000000)
    (hs : ∀ (i : Nat) w' (R : VK), i < m → Ex [] w w' → (∀ w2, Ex [] w' w2 → R (f i) w2.H) → g (.int i) (wipe σ vs) w'.H (KMk1 te vs σ R))
    (hd : ∀ w' p, Ex [] w w' → w.H p = none → Op w' p (.lst ((List.range m).map f)) → Q (.ref p) w'.H) : KLc g (Tto.den v .no W') te vs σ Q (Itr 0 m) w.H := by
  refine k_lc_n m rfl fun w1 D e1 hD o1 => ⟨InvV w D f, ⟨e1, o1⟩, fun i w' hi p => ?_, fun w' p => hd w' D p.1 hD p.2⟩
  exact hs i w' (KAp D (InvV w D f (i + 1))) hi p.1 fun w2 e => invV_next hD p e (by omega)
/-- over sealed ints -/
theorem k_lc_iv {x : V} {ns : List Int} {g : TG} {te : TE} {vs : List Nat} {W' : WX} (hx : Dv w x (.list (ns.map .int))) (f : Int → V) (hn : ns.length ≤ 1000000)
    (hs : ∀ (i : Int) w' (R : VK), i ∈ ns → Ex [] w w' → (∀ w2, Ex [] w' w2 → R (f i) w2.H) → g (.int i) (wipe σ vs) w'.H (KMk1 te vs σ R))
    (hd : ∀ w' p, Ex [] w w' → w.H p = none → Op w' p (.lst (ns.map f)) → Q (.ref p) w'.H) : KLs K (KLc g (Tto.den v .no W') te vs σ Q) x w.H := by
  refine k_lc_D hx fun w1 D e1 hD o1 => ⟨InvV w D (fun j => f (ns.getD j 0)), ⟨e1, o1⟩, fun i w' p => ⟨[], p.1⟩, fun i d y w' hd' dy p => ?_, fun w' p => ?_⟩
  · obtain ⟨hi, rfl⟩ := get_map (z := 0) hd'
    obtain rfl := dy.of_int
    have hm : ns.getD i 0 ∈ ns := by
      rw [List.getD_eq_getElem?_getD, List.getElem?_eq_getElem hi]
      exact List.getElem_mem hi
    exact hs _ w' (KAp D (InvV w D (fun j => f (ns.getD j 0)) (i + 1))) hm p.1 fun w2 e => invV_next (f := fun j => f (ns.getD j 0)) hD p e (by omega)
  · have o := p.2
    rw [List.length_map, range_map] at o
    exact hd w' D p.1 hD o
/-! zip of two texts -/
def KZs (R : It → Hp → Prop) : List V → Hp → Prop := fun vs H1 => ∃ x y : Str, vs = [.str x, .str y] ∧ R (Izs x y) H1
theorem q_zipS {e e' : Xp} {R : It → Hp → Prop} (h : Xps.den v (.cons e (.cons e' .nil)) W σ H (KZs R)) : Sq.den v (.zipS e e') W σ H R := h
theorem k_zs {x y : Str} {R : It → Hp → Prop} (r : R (Izs x y) H) : KZs R [.str x, .str y] H := ⟨x, y, rfl, r⟩
theorem zip_map {f : Nat → Nat → V} (as bs : List Nat) : (List.range (min as.length bs.length)).map (fun j => f (as.getD j 0) (bs.getD j 0)) = List.zipWith f as bs := by
  refine List.ext_getElem? fun i => ?_
  rw [List.getElem?_map, List.getElem?_zipWith]
  by_cases h : i < min as.length bs.length
  · have h1 : i < as.length := by omega
    have h2 : i < bs.length := by omega
    rw [List.getElem?_range h, List.getElem?_eq_getElem h1, List.getElem?_eq_getElem h2]
    simp only [Option.map_some]
    rw [List.getD_eq_getElem?_getD, List.getElem?_eq_getElem h1, List.getD_eq_getElem?_getD, List.getElem?_eq_getElem h2]
    rfl
  · rw [List.getElem?_eq_none (by simpa using h)]
    rcases Nat.lt_or_ge i as.length with h1 | h1
    · rw [List.getElem?_eq_none (show bs.length ≤ i by omega)]
      cases as[i]? <;> rfl
    · rw [List.getElem?_eq_none h1]; rfl
theorem k_lc_zs {as bs : List Nat} {g : TG} {te : TE} {vs : List Nat} {W' : WX} (f : Nat → Nat → V) (hn : as.length ≤ 1000000)
    (hs : ∀ (c d : Nat) w' T (R : VK), c ∈ as → d ∈ bs → Ex [] w w' → w'.H T = some (.tup [.str (S [c]), .str (S [d])]) → (∀ w2, Ex [] w' w2 → R (f c d) w2.H) → g (.ref T) (wipe σ vs) w'.H (KMk1 te vs σ R))
    (hd : ∀ w' p, Ex [] w w' → w.H p = none → Op w' p (.lst (List.zipWith f as bs)) → Q (.ref p) w'.H) : KLc g (Tto.den v .no W') te vs σ Q (Izs (S as) (S bs)) w.H := fun D hD => by
  have sa : (S as).cps.size = as.length := by simp [S]
  have sb : (S bs).cps.size = bs.length := by simp [S]
  refine ⟨fun i k H => k = min as.length bs.length - i ∧ i ≤ min as.length bs.length ∧ KIw (InvV w D (fun j => f (as.getD j 0) (bs.getD j 0)) i) H, ⟨min as.length bs.length, by simp, Nat.zero_le _, w.put D (.lst []), rfl, ex_new hD, op_new hD⟩, ?_⟩
  rintro i k H ⟨rfl, hi, w', rfl, p⟩
  by_cases hlt : i < min as.length bs.length
  · refine .inr ⟨by show i < min (S as).cps.size (S bs).cps.size; rw [sa, sb]; exact hlt, KIw (InvV w D (fun j => f (as.getD j 0) (bs.getD j 0)) (i + 1)), fun H' p' => ⟨min as.length bs.length - (i + 1), by omega, rfl, hlt, p'⟩, fun z H' y => ?_⟩
    obtain ⟨T, c, d, rfl, hT, rfl, hc, hd'⟩ := y
    have hc : as[i]? = some c := by simpa [S] using hc
    have hd' : bs[i]? = some d := by simpa [S] using hd'
    have e1 : as.getD i 0 = c := by rw [List.getD_eq_getElem?_getD, hc]; rfl
    have e2 : bs.getD i 0 = d := by rw [List.getD_eq_getElem?_getD, hd']; rfl
    have eT : Ex [] w' (w'.put T (.tup [.str ⟨#[c]⟩, .str ⟨#[d]⟩])) := ex_new hT
    refine hs c d (w'.put T _) T (KAp D (InvV w D (fun j => f (as.getD j 0) (bs.getD j 0)) (i + 1))) (List.mem_of_getElem? hc) (List.mem_of_getElem? hd') (p.1.t0 eT) upd_same fun w2 e2' => ?_
    have := invV_next (f := fun j => f (as.getD j 0) (bs.getD j 0)) hD p (eT.t0 e2') (by omega)
    rwa [e1, e2] at this
  · have e : i = min as.length bs.length := by omega
    subst e
    refine .inl ⟨by show min (S as).cps.size (S bs).cps.size ≤ _; rw [sa, sb]; exact Nat.le_refl _, hd w' D p.1 hD ?_⟩
    have o := p.2
    rwa [zip_map] at o
/-- join of an open list -/
theorem join_S (ys : List (List Nat)) : Txt.join (S []) (ys.map S) = S ys.flatten := by
  have hj : ∀ l : List (List Nat), TL.joinL [] l = l.flatten := by
    intro l
    induction l with
    | nil => rfl
    | cons a r ih =>
      cases r with
      | nil => simp [TL.joinL]
      | cons b r2 => simp only [TL.joinL] at ih ⊢; simpa using ih
  exact (SX.join_S [] ys).trans (congrArg S (hj ys))
theorem m_join {a : Addr} {ys : List (List Nat)} (e : w.H a = some (.lst (ys.map fun y => .str (S y)))) (hl : (ys.map (·.length)).sum ≤ 16777216) (h : Q (.str (S ys.flatten)) w.H) : KM2 K .join (.str (S [])) Q [.ref a] w.H := by
  refine ⟨ys.map S, .inl (sqL (by rw [List.map_map]; exact e)), ?_, by rw [join_S]; exact h⟩
  rw [List.map_map]
  have : (S []).length = 0 := rfl
  rw [this, Nat.mul_zero, Nat.add_zero]
  refine Nat.le_trans (Nat.le_of_eq ?_) hl
  exact congrArg List.sum (List.map_congr_left fun y _ => S_len y)
theorem m_find {a b : Str} (h : Q (.int (Txt.find a b)) H) : KM2 K .find (.str a) Q [.str b] H := h
theorem flat1 : ∀ cs : List Nat, (cs.map fun c => [c]).flatten = cs
  | [] => rfl
  | c :: r => by rw [List.map_cons, List.flatten_cons, flat1 r]; rfl
theorem m_join1 {a : Addr} {cs : List Nat} (e : w.H a = some (.lst (cs.map fun c => .str (S [c])))) (hl : cs.length ≤ 16777216) (h : Q (.str (S cs)) w.H) : KM2 K .join (.str (S [])) Q [.ref a] w.H := by
  refine m_join (ys := cs.map fun c => [c]) (by rw [List.map_map]; exact e) ?_ (by rw [flat1]; exact h)
  rw [List.map_map]
  have : ∀ l : List Nat, (l.map ((fun x : List Nat => x.length) ∘ fun c => [c])).sum = l.length := by
    intro l
    induction l with
    | nil => rfl
    | cons a r ih => rw [List.map_cons, List.sum_cons, ih, List.length_cons]; simp; omega
  rw [this]
  exact hl
def KRvL (K : PySem.W.Frag) (Q : VK) : VK := fun x H1 => ∃ (a : Addr) (xs : List V), x = .ref a ∧ SqL K H1 a xs ∧ ∀ p, H1 p = none → Q (.ref p) (upd H1 p (.lst xs.reverse))
theorem k_revO {a : Addr} {xs : List V} (e : w.H a = some (.lst xs)) (h : ∀ w' p, Ex [] w w' → w.H p = none → Op w' p (.lst xs.reverse) → Q (.ref p) w'.H) : KRvL K Q (.ref a) w.H :=
  ⟨a, xs, rfl, sqL e, fun p hp => h (w.put p _) p (ex_new hp) hp (op_new hp)⟩
theorem e_rev {a : Xp} (h : a.den v W σ H (KRvL v.K Q)) : Xp.den v (.rev a) W σ H Q := by
  exact h
theorem tyS {s : Str} {P : Prop} (h : P) : tyV K "str" (.str s) H ∧ P := ⟨rfl, h⟩
theorem k_mS {m : Bm} {es : Xps} {s : Str} (hm : m.ty = "str") (h : es.den v W σ H (KM2 v.K m (.str s) Q)) : KM1 v m es W σ Q (.str s) H := ⟨hm, h⟩
end
end DI

/-! DI, part 18: more rules. -/
namespace DI
open L2
open PySem.Spec
open PyProof.Rows hiding St
open PySem

section
variable {v : Ev} {D : Nat → Df} {n : Nat} {W : WX} {σ : St} {H : Hp} {Q : VK} {nx bk ct : St → Hp → Prop} {rt : VK} {w : Wd} {K : PySem.W.Frag} {P : Bool → Hp → Prop}
/-! is True, is False of what is known -/
theorem c_isTT (h : P true H) : KC2 K .Is (.bl true) P (.bl true) H := .inr ⟨true, true, rfl, rfl, by simpa using h⟩
theorem c_isFF (h : P true H) : KC2 K .Is (.bl false) P (.bl false) H := .inr ⟨false, false, rfl, rfl, by simpa using h⟩
theorem c_isnTT (h : P false H) : KC2 K .IsNot (.bl true) P (.bl true) H := .inr ⟨true, true, rfl, rfl, by simpa using h⟩
theorem c_isnFF (h : P false H) : KC2 K .IsNot (.bl false) P (.bl false) H := .inr ⟨false, false, rfl, rfl, by simpa using h⟩
/-- int of a digit -/
theorem f_ints {s : List Nat} {i : Int} (e : PySem.intText? (S s) = some i) (hl : s.length ≤ 640) (h : Q (.int i) H) : KBf K .int Q [.str (S s)] H := ⟨i, e, by rw [S_len]; exact hl, h⟩
theorem f_int0 (h : Q (.int 0) H) : KBf K .int Q [.str (S [48])] H := f_ints (by decide +kernel) (by decide) h
theorem f_int1 (h : Q (.int 1) H) : KBf K .int Q [.str (S [49])] H := f_ints (by decide +kernel) (by decide) h
/-! the same on both sides -/
theorem c_eqR {i : Int} (h : P true H) : KC2 K .Eq (.int i) P (.int i) H := c_eq (by simpa using h)
theorem c_neR {i : Int} (h : P false H) : KC2 K .NotEq (.int i) P (.int i) H := c_ne (by simpa using h)
theorem c_eqsR {a : Str} (h : P true H) : KC2 K .Eq (.str a) P (.str a) H := c_eqs (by simpa using h)
theorem c_nesR {a : Str} (h : P false H) : KC2 K .NotEq (.str a) P (.str a) H := c_nes (by simpa using h)
/-! range of two -/
def KR2b (x : V) (R : It → Hp → Prop) : VK := fun y H => ∃ i j : Int, [x, y] = [.int i, .int j] ∧ (-(2 ^ 62) ≤ i ∧ i < 2 ^ 62 ∧ -(2 ^ 62) ≤ j ∧ j < 2 ^ 62) ∧ R (Itr i (j - i).toNat) H
def KR2a (v : Ev) (b : Xp) (W : WX) (σ : St) (R : It → Hp → Prop) : VK := fun x H => b.den v W σ H (KR2b x R)
theorem q_rng2a {a b : Xp} {R : It → Hp → Prop} (h : a.den v W σ H (KR2a v b W σ R)) : Sq.den v (.rng2 a b) W σ H R := h
theorem k_r2a {b : Xp} {x : V} {R : It → Hp → Prop} (h : b.den v W σ H (KR2b x R)) : KR2a v b W σ R x H := h
theorem k_r2b {i j : Int} {R : It → Hp → Prop} (c : -(2 ^ 62) ≤ i ∧ i < 2 ^ 62 ∧ -(2 ^ 62) ≤ j ∧ j < 2 ^ 62) (h : R (Itr i (j - i).toNat) H) : KR2b (.int i) R (.int j) H := ⟨i, j, rfl, c, h⟩
end
end DI

/-! DI, part 19: rules for raise, try, displays, chains of three. -/
namespace DI
open L2
open PySem.Spec
open PyProof.Rows hiding St
open PySem

/-- the text of an __init__ that keeps one field -/
def supOf : List Stmt → Option SupTxt
  | [.Expr (.Call (.Attribute (.Call (.Name s p0) [] [] p1) i p2) [.Constant (.str m) j p3] [] p4) p5, .Assign [.Attribute (.Name se q1) f q2] (.Name x q3) q4] =>
    if s = "super" ∧ i = "__init__" ∧ se = "self" then some ⟨m, x, f, j, p0, p1, p2, p3, p4, p5, q1, q2, q3, q4, q4⟩ else none
  | _ => none
theorem supOf_body {b : List Stmt} {T : SupTxt} (h : supOf b = some T) : b = T.body := by
  unfold supOf at h
  split at h
  · split at h
    · rename_i e
      obtain ⟨rfl, rfl, rfl⟩ := e
      cases h
      rfl
    · cases h
  · cases h
/-- the checks of the trees -/
def supB (params : Arguments) (scope : Scope) (T : SupTxt) (f : Str) : Bool :=
  decide (T.f = f) && decide ((params.posonlyargs ++ params.args).head?.map (·.arg) = some ("self" : Str)) && (T.p2.endLine == T.p4.line) && decide (T.x ≠ "self") && !(T.x == ("__debug__" : Str)) &&
  decide (scope.names.lookup ("super" : Str) = some .globalImplicit) && decide (scope.names.lookup ("__class__" : Str) = some .free) && decide (scope.names.lookup ("self" : Str) = some .local) && decide (scope.names.lookup T.x = some .local) &&
  (scope.names.all fun y => !decide (y.2 = .cell)) && !scope.isCoroutine && !scope.isGenerator && decide (scope.kind = .function)
theorem exCls_mk {P : Program} {K : PySem.W.Frag} {C R fI cc cda : Addr} {f qual : Str} {st : Stmt} {T : SupTxt} {nm q : Str} {N : Addr} {bs : List Value} {sn : List Str} {sub : List Value} {ab : Bool} {col : Option Bool} {dd : Option Addr} {m0 m1 m2 m3 m5 : Option Value}
    {kV doc pm ct oc ccl cl : Value} {an od cdd cld : Option Addr} {osl ccs csl : Array (Option Value)} {vs : Array Value} {file : Str} {tf : Tok}
    (xL : K.lookup C = some (excClassObj nm q C N bs [.ref R, .type "ValueError", .type "Exception", .type "BaseException", .type "object"] true sn sub ab col dd m0 m1 m2 m3 m5 "ValueError.__new__"))
    (sa : PySem.W.findIn K (.ref C) "__setattr__" = some (some (.builtin "object.__setattr__"))) (ga : PySem.W.findIn K (.ref C) "__getattribute__" = some (some (.builtin "BaseException.__getattribute__"))) (gg : PySem.W.findIn K (.ref C) "__getattr__" = some none) (nb : PySem.W.findIn K (.ref C) f = some none)
    (eC : PySem.W.subIn K (.ref C) (.type "BaseException") = some true) (tC : PySem.W.typeIn K (.ref C) = some (.type "type")) (kC : PySem.W.keepIn K (.ref C) = true) (hC : PySem.W.hasDictIn K C = true)
    (a1 : PySem.W.findIn K (.ref C) "__init__" = some (some (.ref fI))) (t1 : PySem.W.typeIn K (.ref fI) = some (.type "function"))
    (l1 : K.lookup fI = some ⟨oc, od, .func (PySem.W.ksFn "__init__" qual (defArgs st) (defBody st) (defScope st) .none kV doc pm an (.ref cda) ct cc), osl⟩) (c1 : PySem.W.codeIn K (.ref cda) qual = true)
    (lc : K.lookup cda = some ⟨ccl, cdd, .fields vs, ccs⟩) (hv : vs[2]? = some (.str file tf)) (lx : K.lookup cc = some ⟨cl, cld, .cell (some (.ref C)), csl⟩)
    (zs : PySem.W.nsIn K mainGlobals "super" = some none) (si : PySem.W.ks_superIn K C C "__init__" = some (some (.builtin "ValueError.__init__"))) (mr : PySem.W.mroIn K C (.ref C) = some true) (ve : PySem.W.subIn K (.ref C) (.type "ValueError") = some true)
    (th : PySem.W.nsIn K cStatics "thirdparty.any" = some none) (ha : PySem.W.findIn K (.ref C) "__class__" = some (some (.builtin "object.__class__"))) (hn : PySem.W.specialIn K (.builtin "object.__class__") "__get__" = some (some (.builtin "getset_descriptor.__get__")))
    (ht : PySem.W.takesIn K (.builtin "object.__class__") = some true) (hm : PySem.W.mroIn K C (.type "object") = some true)
    (hf : ((P.main.file : Str) == file) = true) (htop : (P.main.scope.names.lookup ("super" : Str)).isSome = false) (hT : supOf (defBody st) = some T) (hB : supB (defArgs st) (defScope st) T f = true)
    (hb : ∀ (kV doc pm : Value) (an : Option Addr) (cdv ct : Value) (cc : Addr) (a b : Value), bindArgs (PySem.W.ksFn "__init__" qual (defArgs st) (defBody st) (defScope st) .none kV doc pm an cdv ct cc) ⟨[a, b], []⟩ = pure [(("self" : Str), a), (T.x, b)]) : ExCls P K C f ∧ ExcC K C := by
  have eb := supOf_body hT
  unfold supB at hB
  simp only [Bool.and_eq_true, decide_eq_true_eq, Bool.not_eq_true', List.all_eq_true, decide_eq_false_iff_not] at hB
  obtain ⟨⟨⟨⟨⟨⟨⟨⟨⟨⟨⟨⟨b1, b2⟩, b3⟩, b4⟩, b5⟩, b6⟩, b7⟩, b8⟩, b9⟩, b10⟩, b11⟩, b12⟩, b13⟩ := hB
  obtain ⟨ar, har, hse⟩ := Option.map_eq_some_iff.mp b2
  rw [eb] at l1 hb
  exact ⟨⟨⟨⟨_, _, _, _, _, _, _, _, _, _, _, _, _, _, _, xL, rfl⟩, sa, eC, tC, kC⟩, ⟨ga, gg, eC, hC⟩, nb,
    ⟨fI, cc, cda, T, qual, _, _, .none, kV, doc, pm, ct, oc, ccl, cl, an, od, cdd, cld, osl, ccs, csl, vs, file, tf, ar, a1, t1, b1, l1, c1, lc, hv, hf, lx, zs, htop, si, mr, ve, th, har, hse, b3, b4, b5, b6, b7, b8, b9, fun y hy => b10 y hy, b11, b12, b13, hb, rfl⟩⟩,
    ⟨ga, gg, eC, hC, ha, hn, ht, hm⟩⟩
/-- super's __init__ is that of the base -/
theorem superIn_of {K : PySem.W.Frag} {C R : Addr} {nm q : Str} {N : Addr} {bs : List Value} {sn : List Str} {sub : List Value} {ab : Bool} {col : Option Bool} {dd : Option Addr} {m0 m1 m2 m3 m5 : Option Value} {nm' q' : Str} {N' : Addr} {bs' : List Value} {sn' : List Str} {sub' : List Value} {ab' : Bool} {col' : Option Bool} {dd' : Option Addr} {m0' m1' m2' m3' m5' : Option Value} {bm : List Value}
    (xL : K.lookup C = some (excClassObj nm q C N bs (.ref R :: bm) true sn sub ab col dd m0 m1 m2 m3 m5 "ValueError.__new__")) (xR : K.lookup R = some (excClassObj nm' q' R N' bs' bm true sn' sub' ab' col' dd' m0' m1' m2' m3' m5' "ValueError.__new__"))
    (fR : PySem.W.findIn K (.ref R) "__init__" = some (some (.builtin "ValueError.__init__"))) : PySem.W.ks_superIn K C C "__init__" = some (some (.builtin "ValueError.__init__")) := by
  have hC : PySem.W.clsIn K C = some { name := nm, bases := bs, mro := .ref C :: .ref R :: bm, ns := N, qualname := q, hasDict := true, slotNames := sn, subclasses := sub, abstract := ab, collection := col, hasDel := false } := by unfold PySem.W.clsIn; rw [xL] <;> rfl
  unfold PySem.W.ks_superIn
  rw [hC]
  have e : ((Value.ref C :: .ref R :: bm).dropWhile (· != .ref C)).drop 1 = .ref R :: bm := by simp [List.dropWhile_cons]
  show PySem.W.alongIn K "__init__" (((Value.ref C :: .ref R :: bm).dropWhile (· != .ref C)).drop 1) = _
  rw [e]
  unfold PySem.W.findIn at fR
  dsimp only at fR
  rw [xR] at fR
  exact fR
/-- who is a kind of whom -/
theorem exm_of {K : PySem.W.Frag} {D C : Addr} {b : Bool} (h1 : PySem.W.subIn K (.ref C) (.type "BaseException") = some true) (hd : PySem.W.hasDictIn K C = true) (ht : PySem.W.typeIn K (.ref C) = some (.type "type")) (h : PySem.W.subIn K (.ref D) (.ref C) = some b) : PySem.W.exmOne K (.ref D) (.ref C) = some b :=
  PySem.W.exm_ref h1 hd ht h
theorem kit_of {K : PySem.W.Frag} {D C : Addr} {b : Bool} (hc : PySem.W.isClsIn K C = true) (ht : PySem.W.typeIn K (.ref C) = some (.type "type")) (h : PySem.W.subIn K (.ref D) (.ref C) = some b) (h0 : PySem.W.subIn K (.ref D) (.ref D) = some true) : PySem.W.kitOne K (.ref D) (.ref C) = some b := by
  unfold PySem.W.kitOne
  by_cases e : D = C
  · subst e
    rw [h0] at h
    rw [if_pos (by simp), ← h]
  · rw [if_neg (by simpa using e)]
    have hc' : (PySem.W.clsIn K C).isSome = true := hc
    have e2 : ((PySem.W.clsIn K C).isSome && PySem.W.typeIn K (.ref C) == some (.type "type")) = true := by rw [hc', ht] <;> rfl
    show PySem.W.kitCls K (.ref D) (.ref C) = some b
    unfold PySem.W.kitCls
    first
    | (show (if ((PySem.W.clsIn K C).isSome && PySem.W.typeIn K (.ref C) == some (.type "type")) = true then PySem.W.subIn K (.ref D) (.ref C) else none) = some b; rw [if_pos e2]; exact h)
    | simp [hc', ht, h]
theorem kit_VE {K : PySem.W.Frag} {D : Addr} (h : PySem.W.subIn K (.ref D) (.type "ValueError") = some true) : PySem.W.kitOne K (.ref D) (.type "ValueError") = some true := by
  unfold PySem.W.kitOne
  rw [if_neg (by simp)]
  unfold PySem.W.kitCls
  first
  | exact h
  | (rw [if_pos (by decide +kernel)]; exact h)
  | simp [h]
/-- what a law must know of its exception classes: L the raised ones with their fields, sub who is a kind of whom, B the others that are named -/
structure XT (v : Ev) (L : List (Nat × Str)) (B : List Nat) (sub : Nat → Nat → Bool) : Prop where
  xs : v.exs = L
  em : ∀ q ∈ L, ∀ c ∈ L.map (·.1) ++ B, PySem.W.exmOne v.K (.ref (v.cls q.1)) (.ref (v.cls c)) = some (sub q.1 c)
  ki : ∀ q ∈ L, ∀ c ∈ L.map (·.1) ++ B, PySem.W.kitOne v.K (.ref (v.cls q.1)) (.ref (v.cls c)) = some (sub q.1 c)
  kv : ∀ q ∈ L, PySem.W.kitOne v.K (.ref (v.cls q.1)) (.type "ValueError") = some true

section
variable {v : Ev} {D : Nat → Df} {n : Nat} {W : WX} {σ : St} {H : Hp} {Q : VK} {nx bk ct : St → Hp → Prop} {rt : VK} {w : Wd} {K : PySem.W.Frag} {P : Bool → Hp → Prop}
/-! raise -/
def KRa (v : Ev) (C : Nat) (f : Str) (W : WX) (σ : St) : List V → Hp → Prop := fun vs H1 => ∃ y, vs = [y] ∧ ∀ dx, H1 dx = none → W (.ref (v.cls C)) (some dx) σ (upd H1 dx (.xd [(f, y)]))
theorem r_rai {C : Nat} {f : Str} {es : Xps} (h : es.den v W σ H (KRa v C f W σ)) : Sm.den v (.rai C f es) W ⟨nx, rt, bk, ct⟩ σ H := h
theorem k_ra {C : Nat} {f : Str} {y : V} (h : ∀ w' dx, Ex [] w w' → w.H dx = none → Op w' dx (.xd [(f, y)]) → W (.ref (v.cls C)) (some dx) σ w'.H) : KRa v C f W σ [y] w.H :=
  ⟨y, rfl, fun dx hd => h (w.put dx _) dx (ex_new hd) hd (op_new hd)⟩
/-! try -/
/-- the code of an except suite, in the place of a call's way out -/
def KTyA (v : Ev) (C i : Nat) (s : Sms) (W : WX) (D : Ends) : WX := wAs v.K (.ref (v.cls C)) i (fun a c d => s.den { v with ex := some (a, c, d) } fun _ _ _ _ => False) W D
def KTyO (v : Ev) (C : Nat) (s : Sms) (W : WX) (D : Ends) : WX := wOnly v.K (.ref (v.cls C)) (fun a c d => s.den { v with ex := some (a, c, d) } fun _ _ _ _ => False) W D
theorem r_tryA {b s : Sms} {C i : Nat} (h : b.den v (KTyA v C i s W ⟨nx, rt, bk, ct⟩) ⟨nx, rt, bk, ct⟩ σ H) : Sm.den v (.tryA b C i s) W ⟨nx, rt, bk, ct⟩ σ H := h
theorem r_tryO {b s : Sms} {C : Nat} (h : b.den v (KTyO v C s W ⟨nx, rt, bk, ct⟩) ⟨nx, rt, bk, ct⟩ σ H) : Sm.den v (.tryO b C s) W ⟨nx, rt, bk, ct⟩ σ H := h
def KUn (i : Nat) (P : St → Hp → Prop) : St → Hp → Prop := fun σ' H' => P (σ'.set i none) H'
theorem k_un {i : Nat} {P : St → Hp → Prop} (h : P (σ.set i none) H) : KUn i P σ H := h
theorem k_tyA {C i j : Nat} {d : Option Addr} {s : Sms} (he : PySem.W.exmOne v.K (.ref (v.cls j)) (.ref (v.cls C)) = some true)
    (h : ∀ a, H a = none → s.den { v with ex := some (a, .ref (v.cls j), d) } (fun _ _ _ _ => False) ⟨KUn i nx, rt, KUn i bk, KUn i ct⟩ (σ.set i (some (.ref a))) H) : KTyA v C i s W ⟨nx, rt, bk, ct⟩ (.ref (v.cls j)) d σ H :=
  ⟨true, he, fun _ a ha => h a ha, fun z => by cases z⟩
theorem k_tyAn {C i j : Nat} {d : Option Addr} {s : Sms} {E : Ends} (he : PySem.W.exmOne v.K (.ref (v.cls j)) (.ref (v.cls C)) = some false) (h : W (.ref (v.cls j)) d σ H) : KTyA v C i s W E (.ref (v.cls j)) d σ H :=
  ⟨false, he, fun z => (by cases z), fun _ => h⟩
theorem k_tyO {C j : Nat} {d : Option Addr} {s : Sms} (he : PySem.W.exmOne v.K (.ref (v.cls j)) (.ref (v.cls C)) = some true)
    (h : ∀ a, H a = none → s.den { v with ex := some (a, .ref (v.cls j), d) } (fun _ _ _ _ => False) ⟨nx, rt, bk, ct⟩ σ H) : KTyO v C s W ⟨nx, rt, bk, ct⟩ (.ref (v.cls j)) d σ H :=
  ⟨true, he, fun _ a ha => h a ha, fun z => by cases z⟩
theorem k_tyOn {C j : Nat} {d : Option Addr} {s : Sms} {E : Ends} (he : PySem.W.exmOne v.K (.ref (v.cls j)) (.ref (v.cls C)) = some false) (h : W (.ref (v.cls j)) d σ H) : KTyO v C s W E (.ref (v.cls j)) d σ H :=
  ⟨false, he, fun z => (by cases z), fun _ => h⟩
/-- several clauses without a name -/
def KTyM (v : Ev) (hs : Hds) (W : WX) (D : Ends) : WX := wMany v.K W D (hs.den v)
theorem r_tryM {b : Sms} {hs : Hds} (h : b.den v (KTyM v hs W ⟨nx, rt, bk, ct⟩) ⟨nx, rt, bk, ct⟩ σ H) : Sm.den v (.tryM b hs) W ⟨nx, rt, bk, ct⟩ σ H := h
theorem k_tyM0 {j : Nat} {d : Option Addr} {E : Ends} (h : W (.ref (v.cls j)) d σ H) : KTyM v .nil W E (.ref (v.cls j)) d σ H := h
theorem k_tyM {C j : Nat} {d : Option Addr} {s : Sms} {r : Hds} (he : PySem.W.exmOne v.K (.ref (v.cls j)) (.ref (v.cls C)) = some true)
    (h : ∀ a, H a = none → s.den { v with ex := some (a, .ref (v.cls j), d) } (fun _ _ _ _ => False) ⟨nx, rt, bk, ct⟩ σ H) : KTyM v (.cons C s r) W ⟨nx, rt, bk, ct⟩ (.ref (v.cls j)) d σ H :=
  ⟨true, he, fun _ a ha => h a ha, fun z => by cases z⟩
theorem k_tyMn {C j : Nat} {d : Option Addr} {s : Sms} {r : Hds} {E : Ends} (he : PySem.W.exmOne v.K (.ref (v.cls j)) (.ref (v.cls C)) = some false) (h : KTyM v r W E (.ref (v.cls j)) d σ H) : KTyM v (.cons C s r) W E (.ref (v.cls j)) d σ H :=
  ⟨false, he, fun z => (by cases z), fun _ => h⟩
/-- the suite's exception: its field, its kind -/
theorem x_ef {u : Ev} {a dd : Addr} {i j : Nat} {f : Str} {fs : List (Str × V)} {z : V} (hx : u.ex = some (a, .ref (u.cls j), some dd)) (hj : (j, f) ∈ u.exs) (hs : σ[i]? = some (some (.ref a))) (hd : H dd = some (.xd fs)) (hl : fs.lookup f = some z) (h : Q z H) : Xp.den u (.ef i f) W σ H Q :=
  ⟨a, dd, j, fs, z, hx, hj, hs, hd, hl, h⟩
theorem x_ei {u : Ev} {a dd : Addr} {i j C : Nat} {f : Str} {fs : List (Str × V)} {b : Bool} (hx : u.ex = some (a, .ref (u.cls j), some dd)) (hj : (j, f) ∈ u.exs) (hs : σ[i]? = some (some (.ref a))) (hd : H dd = some (.xd fs)) (hk : PySem.W.kitOne u.K (.ref (u.cls j)) (.ref (u.cls C)) = some b) (h : Q (.bl b) H) : Xp.den u (.ei i C) W σ H Q :=
  ⟨a, dd, j, f, fs, b, hx, hj, hs, hd, hk, h⟩
theorem x_eib {u : Ev} {a dd : Addr} {i j : Nat} {n : String} {f : Str} {fs : List (Str × V)} {b : Bool} (hx : u.ex = some (a, .ref (u.cls j), some dd)) (hj : (j, f) ∈ u.exs) (hs : σ[i]? = some (some (.ref a))) (hd : H dd = some (.xd fs)) (hk : PySem.W.kitOne u.K (.ref (u.cls j)) (.type n) = some b) (h : Q (.bl b) H) : Xp.den u (.eib i n) W σ H Q :=
  ⟨a, dd, j, f, fs, b, hx, hj, hs, hd, hk, h⟩
/-! chains of three -/
def KG1 (v : Ev) (o1 o2 o3 : CmpOp) (b c d : Xp) (W : WX) (σ : St) (P : Bool → Hp → Prop) : VK := fun x H1 => b.den v W σ H1 fun y H2 => rCmpB v.K o1 x y H2 fun k =>
  if k = true then c.den v W σ H2 fun z H3 => rCmpB v.K o2 y z H3 fun k' => if k' = true then d.den v W σ H3 fun u H4 => rCmpB v.K o3 z u H4 fun k2 => P k2 H4 else P false H3 else P false H2
def KG2 (v : Ev) (o1 o2 o3 : CmpOp) (c d : Xp) (W : WX) (σ : St) (P : Bool → Hp → Prop) (x : V) : VK := fun y H2 => rCmpB v.K o1 x y H2 fun k =>
  if k = true then c.den v W σ H2 fun z H3 => rCmpB v.K o2 y z H3 fun k' => if k' = true then d.den v W σ H3 fun u H4 => rCmpB v.K o3 z u H4 fun k2 => P k2 H4 else P false H3 else P false H2
def KG3 (v : Ev) (o2 o3 : CmpOp) (c d : Xp) (W : WX) (σ : St) (P : Bool → Hp → Prop) (y : V) : Bool → Hp → Prop := fun k H2 =>
  if k = true then c.den v W σ H2 (KH2 v o2 o3 d W σ P y) else P false H2
theorem e_chn3 {o1 o2 o3 : CmpOp} {a b c d : Xp} (h : a.den v W σ H (KG1 v o1 o2 o3 b c d W σ (KBl Q))) : Xp.den v (.chn3 o1 o2 o3 a b c d) W σ H Q := h
theorem t_chn3 {o1 o2 o3 : CmpOp} {a b c d : Xp} (h : a.den v W σ H (KG1 v o1 o2 o3 b c d W σ P)) : Tt.den v (.chn3 o1 o2 o3 a b c d) W σ H P := h
theorem k_g1 {o1 o2 o3 : CmpOp} {b c d : Xp} {x : V} (h : b.den v W σ H (KG2 v o1 o2 o3 c d W σ P x)) : KG1 v o1 o2 o3 b c d W σ P x H := h
theorem k_g2 {o1 o2 o3 : CmpOp} {c d : Xp} {x y : V} (h : KC2 v.K o1 x (KG3 v o2 o3 c d W σ P y) y H) : KG2 v o1 o2 o3 c d W σ P x y H := h
theorem k_g3 {o2 o3 : CmpOp} {c d : Xp} {y : V} {k : Bool} (ht : k = true → c.den v W σ H (KH2 v o2 o3 d W σ P y)) (hf : k = false → P false H) : KG3 v o2 o3 c d W σ P y k H := by
  cases k with
  | true => exact ht rfl
  | false => exact hf rfl
/-! dicts: displays, get, del -/
def KDi (Q : VK) (ps : List (TE × TE)) (σ : St) (H : Hp) : Prop := ∀ p, H p = none → tPairs ps σ (upd H p (.dK [])) fun qs H2 => H2 p = some (.dK []) ∧ ∃ kvs : List (Key × V), qs = kvs.map (fun kv => (kV kv.1, kv.2)) ∧ kvs.length ≤ 15 ∧ Q (.ref p) (upd H2 p (.dK (mergeK [] kvs)))
def KPs (ps : List (TE × TE)) (σ : St) (R : List (V × V) → Hp → Prop) (H : Hp) : Prop := tPairs ps σ H R
def KPk (tv : TE) (ps : List (TE × TE)) (σ : St) (R : List (V × V) → Hp → Prop) : VK := fun x H1 => tv σ H1 fun y H2 => tPairs ps σ H2 fun qs H3 => R ((x, y) :: qs) H3
def KPv (x : V) (ps : List (TE × TE)) (σ : St) (R : List (V × V) → Hp → Prop) : VK := fun y H2 => KPs ps σ (fun qs H3 => R ((x, y) :: qs) H3) H2
theorem e_dct {ks vs : Xps} (h : KDi Q ((ks.dens v W).zip (vs.dens v W)) σ H) : Xp.den v (.dct ks vs) W σ H Q := h
theorem k_di {ps : List (TE × TE)} (h : ∀ w' p, Ex [] w w' → w.H p = none → Op w' p (.dK []) → KPs ps σ (fun qs H2 => H2 p = some (.dK []) ∧ ∃ kvs : List (Key × V), qs = kvs.map (fun kv => (kV kv.1, kv.2)) ∧ kvs.length ≤ 15 ∧ Q (.ref p) (upd H2 p (.dK (mergeK [] kvs)))) w'.H) : KDi Q ps σ w.H :=
  fun p hp => h (w.put p (.dK [])) p (ex_new hp) hp (op_new hp)
theorem k_ps0 {R : List (V × V) → Hp → Prop} (h : R [] H) : KPs [] σ R H := h
theorem k_ps1 {k x : Xp} {ks vs : Xps} {R : List (V × V) → Hp → Prop} (h : k.den v W σ H (KPk (x.den v W) ((ks.dens v W).zip (vs.dens v W)) σ R)) : KPs (((Xps.cons k ks).dens v W).zip ((Xps.cons x vs).dens v W)) σ R H := h
theorem k_pk {x : Xp} {ps : List (TE × TE)} {y : V} {R : List (V × V) → Hp → Prop} (h : x.den v W σ H (KPv y ps σ R)) : KPk (x.den v W) ps σ R y H := h
theorem k_pv {ps : List (TE × TE)} {x y : V} {R : List (V × V) → Hp → Prop} (h : KPs ps σ (fun qs H3 => R ((x, y) :: qs) H3) H) : KPv x ps σ R y H := h
def KGe1 (v : Ev) (k x : Xp) (W : WX) (σ : St) (Q : VK) : VK := fun d H1 => ∃ a, d = .ref a ∧ IsD H1 a ∧ k.den v W σ H1 fun y H2 => x.den v W σ H2 fun z H3 => ∃ o, DGet H3 a y o ∧ Q (o.getD z) H3
def KGe2 (v : Ev) (x : Xp) (W : WX) (σ : St) (a : Addr) (Q : VK) : VK := fun y H2 => x.den v W σ H2 fun z H3 => ∃ o, DGet H3 a y o ∧ Q (o.getD z) H3
def KGe3 (a : Addr) (y : V) (Q : VK) : VK := fun z H3 => ∃ o, DGet H3 a y o ∧ Q (o.getD z) H3
theorem e_dget {d k x : Xp} (h : d.den v W σ H (KGe1 v k x W σ Q)) : Xp.den v (.dget d k x) W σ H Q := h
theorem k_ge1 {k x : Xp} {a : Addr} {kvs : List (Key × V)} (hd : H a = some (.dK kvs)) (h : k.den v W σ H (KGe2 v x W σ a Q)) : KGe1 v k x W σ Q (.ref a) H := ⟨a, rfl, .inl ⟨_, .inl hd⟩, h⟩
theorem k_ge2 {x : Xp} {a : Addr} {y : V} (h : x.den v W σ H (KGe3 a y Q)) : KGe2 v x W σ a Q y H := h
theorem k_ge3 {a : Addr} {kvs : List (Key × V)} {k : Key} {y z : V} (hd : H a = some (.dK kvs)) (hy : y = kV k) (h : Q ((valV kvs k).getD z) H) : KGe3 a y Q z H := by subst hy; exact ⟨_, DGet.k hd, h⟩
def KDl1 (v : Ev) (k : Xp) (W : WX) (σ : St) (P : St → Hp → Prop) : VK := fun x H1 => k.den v W σ H1 fun y H2 => ∃ a kvs k, x = .ref a ∧ H2 a = some (.dK kvs) ∧ y = kV k ∧ (valV kvs k).isSome = true ∧ P σ (upd H2 a (.dK (dropK kvs k)))
def KDl2 (σ : St) (P : St → Hp → Prop) (x : V) : VK := fun y H2 => ∃ a kvs k, x = .ref a ∧ H2 a = some (.dK kvs) ∧ y = kV k ∧ (valV kvs k).isSome = true ∧ P σ (upd H2 a (.dK (dropK kvs k)))
theorem r_ddel {d k : Xp} (h : d.den v W σ H (KDl1 v k W σ nx)) : Sm.den v (.ddel d k) W ⟨nx, rt, bk, ct⟩ σ H := h
theorem k_dl1 {k : Xp} {x : V} {P : St → Hp → Prop} (h : k.den v W σ H (KDl2 σ P x)) : KDl1 v k W σ P x H := h
theorem k_dl2 {a : Addr} {kvs : List (Key × V)} {k : Key} {y : V} {P : St → Hp → Prop} (o : Op w a (.dK kvs)) (hy : y = kV k) (hs : (valV kvs k).isSome = true) (h : ∀ w', Ex [a] w w' → Op w' a (.dK (dropK kvs k)) → P σ w'.H) : KDl2 σ P (.ref a) y w.H :=
  ⟨a, kvs, k, rfl, o.h, hy, hs, h (w.put a _) (ex_set o) (op_set o)⟩
/-! list(range(..)), reversed(range(..)) -/
def KLr1 (Q : VK) : VK := fun x H1 => ∃ n, x = .int n ∧ (RgOk 0 n ∧ ∀ q, H1 q = none → Q (.ref q) (upd H1 q (.lst (rgV 0 n))))
theorem e_lrg1 {a : Xp} (h : a.den v W σ H (KLr1 Q)) : Xp.den v (.lrg1 a) W σ H Q := h
theorem k_lr1 {n : Int} (hn : RgOk 0 n) (h : KNew (.lst (rgV 0 n)) Q H) : KLr1 Q (.int n) H := ⟨n, rfl, hn, h⟩
def KRr1 (R : It → Hp → Prop) : VK := fun x H1 => ∃ n, x = .int n ∧ (-(2 ^ 62) ≤ (0 : Int) ∧ (0 : Int) < 2 ^ 62 ∧ -(2 ^ 62) ≤ n ∧ n < 2 ^ 62 ∧ R (Itc (0 + (((n - 0).toNat : Nat) : Int) - 1) (-1) (n - 0).toNat) H1)
theorem q_rvr1 {a : Xp} {R : It → Hp → Prop} (h : a.den v W σ H (KRr1 R)) : Sq.den v (.rvr1 a) W σ H R := h
theorem k_rr1 {n : Int} {R : It → Hp → Prop} (h1 : -(2 ^ 62) ≤ n) (h2 : n < 2 ^ 62) (h : R (Itc (n.toNat - 1) (-1) n.toNat) H) : KRr1 R (.int n) H := ⟨n, rfl, by decide, by decide, h1, h2, by simpa using h⟩
/-- range with a step of two -/
theorem k_r3p {i j c : Int} {R : It → Hp → Prop} {m : Nat} (hr : RgC i j c m) (h : R (Itc i c m) H) : KR3c R [.int i, .int j, .int c] H := ⟨i, j, c, m, rfl, hr, h⟩
/-! len(x) of an instance -/
def KLo (v : Ev) (m C : Nat) (Q : VK) : List V → Hp → Prop := fun vs H1 => ∃ a dx fs, vs = [V.ref a] ∧ H1 a = some (.ins (v.cls C) dx fs) ∧ v.sp m [V.ref a] H1 (fun y H2 => ∃ n : Int, y = .int n ∧ 0 ≤ n ∧ n < 2 ^ 63 ∧ Q (.int n) H2) fun _ _ _ => False
theorem e_lenO {m C : Nat} {es : Xps} (h : es.den v W σ H (KLo v m C Q)) : Xp.den v (.lenO m C es) W σ H Q := h
theorem k_lo {m C : Nat} {a dx : Addr} {fs : List (Str × V)} (ha : H a = some (.ins (v.cls C) dx fs)) (h : v.sp m [V.ref a] H (fun y H2 => ∃ n : Int, y = .int n ∧ 0 ≤ n ∧ n < 2 ^ 63 ∧ Q (.int n) H2) fun _ _ _ => False) : KLo v m C Q [V.ref a] H :=
  ⟨a, dx, fs, rfl, ha, h⟩
/-! enumerate over a tuple -/
def KEnT (K : PySem.W.Frag) (R : It → Hp → Prop) : List V → Hp → Prop := fun vs H1 => ∃ a xs, vs = [.ref a] ∧ SqT K H1 a xs ∧ R (IteT K a xs.length) H1
theorem q_enmT {e : Xp} {R : It → Hp → Prop} (h : Xps.den v (.cons e .nil) W σ H (KEnT v.K R)) : Sq.den v (.enmT e) W σ H R := h
theorem k_enT {a : Addr} {xs : List V} {R : It → Hp → Prop} (h : SqT K w.H a xs) (r : R (IteT K a xs.length) w.H) : KEnT K R [.ref a] w.H := ⟨a, xs, rfl, h, r⟩
theorem k_for_enmT {a : Addr} {xs : List V} {g : TG} {tb : TS} (Inv : Nat → St → Wd → Prop) (hk : ∀ i σ w', Inv i σ w' → SqT K w'.H a xs) (h0 : Inv 0 σ w)
    (hs : ∀ (i : Nat) x σ w' w2 T, xs[i]? = some x → Inv i σ w' → Ex [] w' w2 → w2.H T = some (.tup [.int i, x]) → g (.ref T) σ w2.H fun σ2 H2 => tb ⟨KIs (Inv (i + 1)), rt, nx, KIs (Inv (i + 1))⟩ σ2 H2)
    (hd : ∀ σ w', Inv xs.length σ w' → nx σ w'.H) : KFor g tb ⟨nx, rt, bk, ct⟩ σ (IteT K a xs.length) w.H := by
  refine ⟨fun i m σ H => m = xs.length - i ∧ i ≤ xs.length ∧ KIs (Inv i) σ H, ⟨xs.length, by simp, Nat.zero_le _, k_is h0⟩, ?_⟩
  rintro i m σ H ⟨rfl, hi, w', rfl, p⟩
  have q := hk i σ w' p
  by_cases hlt : i < xs.length
  · refine .inr ⟨⟨xs, xs[i], q, rfl, by simp [hlt]⟩, KIs (Inv (i + 1)), fun σ' H' p' => ⟨xs.length - (i + 1), by omega, rfl, hlt, p'⟩, fun z H' y => ?_⟩
    obtain ⟨T, x, rfl, hT, rfl, f⟩ := y
    exact hs i x σ w' (w'.put T _) T (f xs q) p (ex_new hT) upd_same
  · have e : i = xs.length := by omega
    subst e
    exact .inl ⟨⟨xs, q, rfl, Nat.le_refl _⟩, hd σ w' p⟩
/-! max, min with default; min of data -/
def KMy (K : PySem.W.Frag) (mx : Bool) (x : V) (Q : VK) : VK := fun z H2 => MX.rDf K mx [x] [z] H2 Q
def KMx (v : Ev) (mx : Bool) (d : Xp) (W : WX) (σ : St) (Q : VK) : VK := fun x H1 => d.den v W σ H1 (KMy v.K mx x Q)
theorem e_mxd {mx : Bool} {a d : Xp} (h : a.den v W σ H (KMx v mx d W σ Q)) : Xp.den v (.mxd mx a d) W σ H Q := h
theorem k_mx {mx : Bool} {d : Xp} {x : V} (h : d.den v W σ H (KMy v.K mx x Q)) : KMx v mx d W σ Q x H := h
theorem k_my {mx : Bool} {a : Addr} {ns : List Int} {d : Int} (hs : SqL K H a (ns.map V.int)) (q0 : ns = [] → Q (.int d) H) (q1 : ∀ m, m ∈ ns → (∀ y, y ∈ ns → if mx = true then y ≤ m else m ≤ y) → Q (.int m) H) : KMy K mx (.ref a) Q (.int d) H := ⟨a, ns, d, rfl, rfl, hs, q0, q1⟩
theorem f_minD {a : Addr} {xs : List V} {z : PyData} {zs : List PyData} (o : w.H a = some (.lst xs)) (r : Dvs w xs (z :: zs)) (nd : PyData.hasDictAll (z :: zs) = false) (al : PySem.W.AlikeAll (z :: zs)) (dp : PyData.depthAll (z :: zs) < 60)
    (q : ∀ (i : Nat) y, xs[i]? = some y → (z :: zs).getD i .none = PySem.W.minD z zs → Q y w.H) : KBf K .min Q [.ref a] w.H := .inr ⟨a, xs, z, zs, rfl, sqL o, r.dp.dp nd, al, dp, q⟩
theorem f_minL {a : Addr} {ns : List Int} (hs : SqL K H a (ns.map V.int)) (h0 : 0 < ns.length) (q : ∀ m, m ∈ ns → (∀ y, y ∈ ns → m ≤ y) → Q (.int m) H) : KBf K .min Q [.ref a] H := .inl ⟨ns, hs, h0, q⟩
theorem f_maxL {a : Addr} {ns : List Int} (hs : SqL K H a (ns.map V.int)) (h0 : 0 < ns.length) (q : ∀ m, m ∈ ns → (∀ y, y ∈ ns → y ≤ m) → Q (.int m) H) : KBf K .max Q [.ref a] H := ⟨ns, hs, h0, q⟩
/-! sorted of a dict's keys -/
theorem f_srtD {a : Addr} {kvs : List (Key × V)} {ks : List Int} (hd : w.H a = some (.dK kvs)) (e : kvs.map (·.1) = ks.map Sum.inl) (hl : ks.length < 64) (h : ∀ (ys : List Int), ys.Perm ks → ys.Pairwise (· ≤ ·) → KNew (.lst (ys.map V.int)) Q w.H) : KBf K .sorted Q [.ref a] w.H :=
  RSrt.dct (.inl hd) e hl fun ys p hp hs hn => h ys hp hs p hn
theorem f_srtL {a : Addr} {ns : List Int} (hd : w.H a = some (.lst (ns.map V.int))) (h : ∀ (ys : List Int), ys.Perm ns → ys.Pairwise (· ≤ ·) → KNew (.lst (ys.map V.int)) Q w.H) : KBf K .sorted Q [.ref a] w.H :=
  RSrt.srt (sqL hd) fun ys p hp hs hn => h ys hp hs p hn
end
end DI

namespace LK
open L2 DI
open PySem.Spec
open PyProof.Rows hiding St
open PySem

/-! the code of k57, printed by gen.py -/
def topS (i : Nat) : Stmt := PySem.Challenge.pw_clockwright_k57_classes.main.body.getD i (.Pass ⟨0, 0, 0, 0⟩)
abbrev c_Graph : Nat := 0
abbrev x_Refused : Nat := 1
abbrev x_Unbounded : Nat := 2
def exL : List (Nat × Str) := [(2, "name")]
def exB : List Nat := []
def exsub (a b : Nat) : Bool := ([(2, 2)] : List (Nat × Nat)).contains (a, b)
abbrev g_max_nodes : Nat := 0
abbrev i_wall : Nat := 0
abbrev i_negated : Nat := 1
abbrev i_Graph_init : Nat := 2
abbrev i_Graph_input_literal : Nat := 3
abbrev i_Graph_register_literal : Nat := 4
abbrev i_Graph_node_count : Nat := 5
abbrev i_Graph_conjunction : Nat := 6
abbrev i_Graph_disjunction : Nat := 7
abbrev i_Graph_exclusive : Nat := 8
abbrev i_Graph_choice : Nat := 9
abbrev i_Graph_set_next : Nat := 10
abbrev i_Graph_set_outputs : Nat := 11
abbrev i_initial_state : Nat := 12
abbrev i_is_integer : Nat := 13
abbrev i_is_row : Nat := 14
abbrev i_are_integers : Nat := 15
abbrev i_is_pair_right : Nat := 16
abbrev i_are_classes : Nat := 17
abbrev i_law_state : Nat := 18
abbrev i_law_take : Nat := 19
abbrev i_law_bits : Nat := 20
abbrev i_law_operate : Nat := 21
abbrev i_law_grow : Nat := 22
abbrev i_law_machine : Nat := 23
abbrev i_law_copy : Nat := 24
abbrev i_law_spoil : Nat := 25
abbrev i_law_pair : Nat := 26
abbrev i_law_classes : Nat := 27
abbrev i_law_paired : Nat := 28
abbrev i_law_pair_right : Nat := 29
abbrev i_law_right : Nat := 30
abbrev i_law_strange : Nat := 31
abbrev i_law_bent : Nat := 32
abbrev i_law : Nat := 33
/-- _wall: 0 k -/
def b_wall : Sms := (.cons (.whl (.tr (.c (.bl true))) (.cons .pass
  .nil))
  .nil)
def d_wall : Df := ⟨["k"], ["k"], b_wall, []⟩
/-- negated: 0 literal -/
def b_negated : Sms := (.cons (.ret (.bin .BitXor (.v 0) (.c (.int 1))))
  .nil)
def d_negated : Df := ⟨["literal"], ["literal"], b_negated, []⟩
/-- Graph.__init__: 0 self, 1 inputs, 2 initials, 3 index, 4 literal -/
def b_Graph_init : Sms := (.cons (.ite (.cmp .Gt (.bin .Add (.bin .Add (.c (.int 1)) (.v 1)) (.bc .len (.cons (.v 2) .nil))) (.g g_max_nodes)) (.cons (.rai x_Unbounded "name" (.cons (.c (.str (S [103, 114, 97, 112, 104]))) .nil))
  .nil) .nil)
  (.cons (.fld c_Graph (.v 0) "inputs" (.v 1))
  (.cons (.fld c_Graph (.v 0) "registers" (.lst .nil))
  (.cons (.fld c_Graph (.v 0) "ands" (.lst .nil))
  (.cons (.fld c_Graph (.v 0) "outputs" (.lst .nil))
  (.cons (.fld c_Graph (.v 0) "known" .dctT0)
  (.cons (.for_ (.nm 3) (.rng1 (.bc .len (.cons (.v 2) .nil))) (.cons (.asg (.nm 4) (.bin .Mult (.c (.int 2)) (.bin .Add (.bin .Add (.c (.int 1)) (.v 1)) (.v 3))))
  (.cons (.exp (.bm .append (.fld c_Graph (.v 0) "registers") (.cons (.tup (.cons (.v 4) (.cons (.ix (.v 2) (.v 3)) .nil))) .nil)))
  .nil)))
  .nil)))))))
def d_Graph_init : Df := ⟨["self", "inputs", "initials"], ["self", "inputs", "initials", "index", "literal"], b_Graph_init, []⟩
/-- Graph.input_literal: 0 self, 1 index -/
def b_Graph_input_literal : Sms := (.cons (.exp (.call i_wall (.cons (.c (.int 0)) .nil)))
  .nil)
def d_Graph_input_literal : Df := ⟨["self", "index"], ["self", "index"], b_Graph_input_literal, []⟩
/-- Graph.register_literal: 0 self, 1 index -/
def b_Graph_register_literal : Sms := (.cons (.ret (.bin .Mult (.c (.int 2)) (.bin .Add (.bin .Add (.c (.int 1)) (.fld c_Graph (.v 0) "inputs")) (.v 1))))
  .nil)
def d_Graph_register_literal : Df := ⟨["self", "index"], ["self", "index"], b_Graph_register_literal, []⟩
/-- Graph.node_count: 0 self -/
def b_Graph_node_count : Sms := (.cons (.ret (.bin .Add (.bin .Add (.bin .Add (.c (.int 1)) (.fld c_Graph (.v 0) "inputs")) (.bc .len (.cons (.fld c_Graph (.v 0) "registers") .nil))) (.bc .len (.cons (.fld c_Graph (.v 0) "ands") .nil))))
  .nil)
def d_Graph_node_count : Df := ⟨["self"], ["self"], b_Graph_node_count, []⟩
/-- Graph.conjunction: 0 self, 1 a, 2 b, 3 literal -/
def b_Graph_conjunction : Sms := (.cons (.ite (.cmp .Gt (.v 1) (.v 2)) (.cons (.par 1 2 (.v 2) (.v 1))
  .nil) .nil)
  (.cons (.ite (.cmp .Eq (.v 1) (.c (.int 0))) (.cons (.ret (.c (.int 0)))
  .nil) .nil)
  (.cons (.ite (.cmp .Eq (.v 1) (.c (.int 1))) (.cons (.ret (.v 2))
  .nil) .nil)
  (.cons (.ite (.cmp .Eq (.v 1) (.v 2)) (.cons (.ret (.v 1))
  .nil) .nil)
  (.cons (.ite (.cmp .Eq (.call i_negated (.cons (.v 1) .nil)) (.v 2)) (.cons (.ret (.c (.int 0)))
  .nil) .nil)
  (.cons (.ite (.cmp .In (.tup (.cons (.v 1) (.cons (.v 2) .nil))) (.fld c_Graph (.v 0) "known")) (.cons (.ret (.ix (.fld c_Graph (.v 0) "known") (.tup (.cons (.v 1) (.cons (.v 2) .nil)))))
  .nil) .nil)
  (.cons (.ite (.cmp .GtE (.meth i_Graph_node_count c_Graph "node_count" (.v 0) .nil) (.g g_max_nodes)) (.cons (.rai x_Unbounded "name" (.cons (.c (.str (S [103, 114, 97, 112, 104]))) .nil))
  .nil) .nil)
  (.cons (.asg (.nm 3) (.bin .Mult (.c (.int 2)) (.meth i_Graph_node_count c_Graph "node_count" (.v 0) .nil)))
  (.cons (.exp (.bm .append (.fld c_Graph (.v 0) "ands") (.cons (.tup (.cons (.v 1) (.cons (.v 2) .nil))) .nil)))
  (.cons (.asg (.sub (.fld c_Graph (.v 0) "known") (.tup (.cons (.v 1) (.cons (.v 2) .nil)))) (.v 3))
  (.cons (.ret (.v 3))
  .nil)))))))))))
def d_Graph_conjunction : Df := ⟨["self", "a", "b"], ["self", "a", "b", "literal"], b_Graph_conjunction, []⟩
/-- Graph.disjunction: 0 self, 1 a, 2 b -/
def b_Graph_disjunction : Sms := (.cons (.ret (.call i_negated (.cons (.meth i_Graph_conjunction c_Graph "conjunction" (.v 0) (.cons (.call i_negated (.cons (.v 1) .nil)) (.cons (.call i_negated (.cons (.v 2) .nil)) .nil))) .nil)))
  .nil)
def d_Graph_disjunction : Df := ⟨["self", "a", "b"], ["self", "a", "b"], b_Graph_disjunction, []⟩
/-- Graph.exclusive: 0 self, 1 a, 2 b, 3 first, 4 second -/
def b_Graph_exclusive : Sms := (.cons (.asg (.nm 3) (.meth i_Graph_conjunction c_Graph "conjunction" (.v 0) (.cons (.v 1) (.cons (.call i_negated (.cons (.v 2) .nil)) .nil))))
  (.cons (.asg (.nm 4) (.meth i_Graph_conjunction c_Graph "conjunction" (.v 0) (.cons (.call i_negated (.cons (.v 1) .nil)) (.cons (.v 2) .nil))))
  (.cons (.ret (.meth i_Graph_disjunction c_Graph "disjunction" (.v 0) (.cons (.v 3) (.cons (.v 4) .nil))))
  .nil)))
def d_Graph_exclusive : Df := ⟨["self", "a", "b"], ["self", "a", "b", "first", "second"], b_Graph_exclusive, []⟩
/-- Graph.choice: 0 self, 1 c, 2 a, 3 b, 4 first, 5 second -/
def b_Graph_choice : Sms := (.cons (.asg (.nm 4) (.meth i_Graph_conjunction c_Graph "conjunction" (.v 0) (.cons (.v 1) (.cons (.v 2) .nil))))
  (.cons (.asg (.nm 5) (.meth i_Graph_conjunction c_Graph "conjunction" (.v 0) (.cons (.call i_negated (.cons (.v 1) .nil)) (.cons (.v 3) .nil))))
  (.cons (.ret (.meth i_Graph_disjunction c_Graph "disjunction" (.v 0) (.cons (.v 4) (.cons (.v 5) .nil))))
  .nil)))
def d_Graph_choice : Df := ⟨["self", "c", "a", "b"], ["self", "c", "a", "b", "first", "second"], b_Graph_choice, []⟩
/-- Graph.set_next: 0 self, 1 index, 2 literal -/
def b_Graph_set_next : Sms := (.cons (.asg (.sub (.fld c_Graph (.v 0) "registers") (.v 1)) (.tup (.cons (.v 2) (.cons (.ix (.ix (.fld c_Graph (.v 0) "registers") (.v 1)) (.c (.int 1))) .nil))))
  .nil)
def d_Graph_set_next : Df := ⟨["self", "index", "literal"], ["self", "index", "literal"], b_Graph_set_next, []⟩
/-- Graph.set_outputs: 0 self, 1 literals -/
def b_Graph_set_outputs : Sms := (.cons (.fld c_Graph (.v 0) "outputs" (.bc .list (.cons (.v 1) .nil)))
  .nil)
def d_Graph_set_outputs : Df := ⟨["self", "literals"], ["self", "literals"], b_Graph_set_outputs, []⟩
/-- initial_state: 0 graph, 1 following, 2 initial -/
def b_initial_state : Sms := (.cons (.ret (.lc (.v 2) (.tup (.cons (.nm 1) (.cons (.nm 2) .nil))) (.lst (.fld c_Graph (.v 0) "registers")) .no [1, 2]))
  .nil)
def d_initial_state : Df := ⟨["graph"], ["graph", "following", "initial"], b_initial_state, []⟩
/-- is_integer: 0 value -/
def b_is_integer : Sms := (.cons (.ret (.and (.bc .isi (.cons (.v 0) (.cons (.ty "int") .nil))) (.not (.bc .isi (.cons (.v 0) (.cons (.ty "bool") .nil))))))
  .nil)
def d_is_integer : Df := ⟨["value"], ["value"], b_is_integer, []⟩
/-- is_row: 0 value -/
def b_is_row : Sms := (.cons (.ret (.or (.bc .isi (.cons (.v 0) (.cons (.ty "list") .nil))) (.bc .isi (.cons (.v 0) (.cons (.ty "tuple") .nil)))))
  .nil)
def d_is_row : Df := ⟨["value"], ["value"], b_is_row, []⟩
/-- are_integers: 0 value, 1 item -/
def b_are_integers : Sms := (.cons (.ite (.not (.tr (.call i_is_row (.cons (.v 0) .nil)))) (.cons (.ret (.c (.bl false)))
  .nil) .nil)
  (.cons (.for_ (.nm 1) (.any (.lst (.v 0)) (.any (.tup (.v 0)) (.txt (.v 0)))) (.cons (.ite (.not (.tr (.call i_is_integer (.cons (.v 1) .nil)))) (.cons (.ret (.c (.bl false)))
  .nil) .nil)
  .nil))
  (.cons (.ret (.c (.bl true)))
  .nil)))
def d_are_integers : Df := ⟨["value"], ["value", "item"], b_are_integers, []⟩
/-- is_pair_right: 0 classes, 1 index, 2 bits, 3 leader, 4 flip -/
def b_is_pair_right : Sms := (.cons (.asg (.tup (.cons (.nm 3) (.cons (.nm 4) .nil))) (.ix (.v 0) (.v 1)))
  (.cons (.ite (.and (.cmp .NotEq (.v 4) (.c (.int 0))) (.cmp .NotEq (.v 4) (.c (.int 1)))) (.cons (.ret (.c (.bl false)))
  .nil) .nil)
  (.cons (.ite (.cmp .Eq (.v 3) (.neg (.c (.int 1)))) (.cons (.ret (.cmp .Eq (.ix (.v 2) (.v 1)) (.v 4)))
  .nil) .nil)
  (.cons (.ite (.or (.cmp .Lt (.v 3) (.c (.int 0))) (.cmp .Gt (.v 3) (.v 1))) (.cons (.ret (.c (.bl false)))
  .nil) .nil)
  (.cons (.ite (.cmp .Eq (.v 3) (.v 1)) (.cons (.ret (.cmp .Eq (.v 4) (.c (.int 0))))
  .nil) .nil)
  (.cons (.ite (.cmp .NotEq (.ix (.ix (.v 0) (.v 3)) (.c (.int 0))) (.v 3)) (.cons (.ret (.c (.bl false)))
  .nil) .nil)
  (.cons (.ret (.cmp .Eq (.ix (.v 2) (.v 1)) (.bin .BitXor (.ix (.v 2) (.v 3)) (.v 4))))
  .nil)))))))
def d_is_pair_right : Df := ⟨["classes", "index", "bits"], ["classes", "index", "bits", "leader", "flip"], b_is_pair_right, []⟩
/-- are_classes: 0 first, 1 second, 2 classes, 3 bits, 4 pair, 5 index -/
def b_are_classes : Sms := (.cons (.asg (.nm 3) (.bin .Add (.call i_initial_state (.cons (.v 0) .nil)) (.call i_initial_state (.cons (.v 1) .nil))))
  (.cons (.ite (.or (.not (.tr (.call i_is_row (.cons (.v 2) .nil)))) (.cmp .NotEq (.bc .len (.cons (.v 2) .nil)) (.bc .len (.cons (.v 3) .nil)))) (.cons (.ret (.c (.bl false)))
  .nil) .nil)
  (.cons (.for_ (.nm 4) (.any (.lst (.v 2)) (.any (.tup (.v 2)) (.txt (.v 2)))) (.cons (.ite (.or (.not (.tr (.call i_are_integers (.cons (.v 4) .nil)))) (.cmp .NotEq (.bc .len (.cons (.v 4) .nil)) (.c (.int 2)))) (.cons (.ret (.c (.bl false)))
  .nil) .nil)
  .nil))
  (.cons (.for_ (.nm 5) (.rng1 (.bc .len (.cons (.v 3) .nil))) (.cons (.ite (.not (.tr (.call i_is_pair_right (.cons (.v 2) (.cons (.v 5) (.cons (.v 3) .nil)))))) (.cons (.ret (.c (.bl false)))
  .nil) .nil)
  .nil))
  (.cons (.ret (.c (.bl true)))
  .nil)))))
def d_are_classes : Df := ⟨["first", "second", "classes"], ["first", "second", "classes", "bits", "pair", "index"], b_are_classes, []⟩
/-- _law_state: 0 _law_script, 1 _law_cells, 2 _law_cell -/
def b_law_state : Sms := (.cons (.asl 1 (.bc .abs (.cons (.v 2) .nil)) (.nm 2) (.lst (.sl (.v 0) .no (.so (.c (.int 63))))) .no [2])
  (.cons (.ite (.cmp .Eq (.bc .len (.cons (.v 1) .nil)) (.c (.int 0))) (.cons (.asg (.nm 1) (.lst (.cons (.c (.int 0)) .nil)))
  .nil) .nil)
  (.cons (.ret (.lst (.cons (.c (.int 0)) (.cons (.v 1) .nil))))
  .nil)))
def d_law_state : Df := ⟨["_law_script"], ["_law_script", "_law_cells", "_law_cell"], b_law_state, []⟩
/-- _law_take: 0 _law_state_here, 1 _law_most, 2 _law_cells, 3 _law_at, 4 _law_cell, 5 _law_mixed -/
def b_law_take : Sms := (.cons (.asg (.nm 2) (.ix (.v 0) (.c (.int 1))))
  (.cons (.asg (.nm 3) (.bin .Mod (.ix (.v 0) (.c (.int 0))) (.bc .len (.cons (.v 2) .nil))))
  (.cons (.asg (.nm 4) (.ix (.v 2) (.v 3)))
  (.cons (.ite (.cmp .GtE (.v 4) (.c (.int 1000000000000000000))) (.cons (.asg (.sub (.v 2) (.v 3)) (.bin .FloorDiv (.v 4) (.v 1)))
  (.cons (.ret (.bin .Mod (.v 4) (.v 1)))
  .nil)) .nil)
  (.cons (.asg (.sub (.v 0) (.c (.int 0))) (.bin .Add (.ix (.v 0) (.c (.int 0))) (.c (.int 1))))
  (.cons (.asg (.nm 5) (.bin .Mod (.bc .int (.cons (.bin .Add (.bin .Mult (.v 4) (.c (.int 48271))) (.bin .Mult (.ix (.v 0) (.c (.int 0))) (.c (.int 69621)))) .nil)) (.c (.int 2147483647))))
  (.cons (.asg (.nm 5) (.bin .Mod (.bc .int (.cons (.bin .Add (.bin .Mult (.v 5) (.c (.int 16807))) (.bin .Mult (.ix (.v 0) (.c (.int 0))) (.c (.int 7919)))) .nil)) (.c (.int 1000000007))))
  (.cons (.ret (.bin .Mod (.bin .FloorDiv (.v 5) (.c (.int 7))) (.v 1)))
  .nil))))))))
def d_law_take : Df := ⟨["_law_state_here", "_law_most"], ["_law_state_here", "_law_most", "_law_cells", "_law_at", "_law_cell", "_law_mixed"], b_law_take, []⟩
/-- _law_bits: 0 _law_state_here, 1 _law_count, 2 _law_k -/
def b_law_bits : Sms := (.cons (.ret (.lc (.call i_law_take (.cons (.v 0) (.cons (.c (.int 2)) .nil))) (.nm 2) (.rng1 (.v 1)) .no [2]))
  .nil)
def d_law_bits : Df := ⟨["_law_state_here", "_law_count"], ["_law_state_here", "_law_count", "_law_k"], b_law_bits, []⟩
/-- _law_operate: 0 _law_graph, 1 _law_kind, 2 _law_x, 3 _law_y, 4 _law_z -/
def b_law_operate : Sms := (.cons (.ite (.cmp .Eq (.v 1) (.c (.int 0))) (.cons (.ret (.meth i_Graph_conjunction c_Graph "conjunction" (.v 0) (.cons (.v 2) (.cons (.v 3) .nil))))
  .nil) .nil)
  (.cons (.ite (.cmp .Eq (.v 1) (.c (.int 1))) (.cons (.ret (.meth i_Graph_disjunction c_Graph "disjunction" (.v 0) (.cons (.v 2) (.cons (.v 3) .nil))))
  .nil) .nil)
  (.cons (.ite (.cmp .Eq (.v 1) (.c (.int 2))) (.cons (.ret (.meth i_Graph_exclusive c_Graph "exclusive" (.v 0) (.cons (.v 2) (.cons (.v 3) .nil))))
  .nil) .nil)
  (.cons (.ret (.meth i_Graph_choice c_Graph "choice" (.v 0) (.cons (.v 2) (.cons (.v 3) (.cons (.v 4) .nil)))))
  .nil))))
def d_law_operate : Df := ⟨["_law_graph", "_law_kind", "_law_x", "_law_y", "_law_z"], ["_law_graph", "_law_kind", "_law_x", "_law_y", "_law_z"], b_law_operate, []⟩
/-- _law_grow: 0 _law_state_here, 1 _law_graph, 2 _law_literals, 3 _law_count, 4 _law_k, 5 _law_kind, 6 _law_parts, 7 _law_j, 8 _law_place -/
def b_law_grow : Sms := (.cons (.for_ (.nm 4) (.rng1 (.v 3)) (.cons (.asg (.nm 5) (.call i_law_take (.cons (.v 0) (.cons (.c (.int 4)) .nil))))
  (.cons (.asg (.nm 6) (.lst .nil))
  (.cons (.for_ (.nm 7) (.rng1 (.c (.int 3))) (.cons (.asg (.nm 8) (.bin .Sub (.bin .Sub (.bc .len (.cons (.v 2) .nil)) (.c (.int 1))) (.call i_law_take (.cons (.v 0) (.cons (.bc .min (.cons (.bc .len (.cons (.v 2) .nil)) (.cons (.c (.int 9)) .nil))) .nil)))))
  (.cons (.exp (.bm .append (.v 6) (.cons (.bin .BitXor (.ix (.v 2) (.v 8)) (.call i_law_take (.cons (.v 0) (.cons (.c (.int 2)) .nil)))) .nil)))
  .nil)))
  (.cons (.exp (.bm .append (.v 2) (.cons (.call i_law_operate (.cons (.v 1) (.cons (.v 5) (.cons (.ix (.v 6) (.c (.int 0))) (.cons (.ix (.v 6) (.c (.int 1))) (.cons (.ix (.v 6) (.c (.int 2))) .nil)))))) .nil)))
  .nil)))))
  .nil)
def d_law_grow : Df := ⟨["_law_state_here", "_law_graph", "_law_literals", "_law_count"], ["_law_state_here", "_law_graph", "_law_literals", "_law_count", "_law_k", "_law_kind", "_law_parts", "_law_j", "_law_place"], b_law_grow, []⟩
/-- _law_machine: 0 _law_state_here, 1 _law_inputs, 2 _law_outputs, 3 _law_most, 4 _law_initials, 5 _law_graph, 6 _law_literals, 7 _law_k -/
def b_law_machine : Sms := (.cons (.asg (.nm 4) (.call i_law_bits (.cons (.v 0) (.cons (.call i_law_take (.cons (.v 0) (.cons (.c (.int 4)) .nil))) .nil))))
  (.cons (.asg (.nm 5) (.mk c_Graph i_Graph_init (.cons (.v 1) (.cons (.v 4) .nil))))
  (.cons (.asg (.nm 6) (.lc (.bin .Mult (.c (.int 2)) (.v 7)) (.nm 7) (.rng1 (.bin .Add (.bin .Add (.c (.int 1)) (.v 1)) (.bc .len (.cons (.v 4) .nil)))) .no [7]))
  (.cons (.exp (.call i_law_grow (.cons (.v 0) (.cons (.v 5) (.cons (.v 6) (.cons (.bin .Add (.c (.int 1)) (.call i_law_take (.cons (.v 0) (.cons (.v 3) .nil)))) .nil))))))
  (.cons (.for_ (.nm 7) (.rng1 (.bc .len (.cons (.v 4) .nil))) (.cons (.exp (.meth i_Graph_set_next c_Graph "set_next" (.v 5) (.cons (.v 7) (.cons (.bin .BitXor (.ix (.v 6) (.bin .Sub (.bin .Sub (.bc .len (.cons (.v 6) .nil)) (.c (.int 1))) (.call i_law_take (.cons (.v 0) (.cons (.bc .len (.cons (.v 6) .nil)) .nil))))) (.call i_law_take (.cons (.v 0) (.cons (.c (.int 2)) .nil)))) .nil))))
  .nil))
  (.cons (.exp (.meth i_Graph_set_outputs c_Graph "set_outputs" (.v 5) (.cons (.lc (.bin .BitXor (.ix (.v 6) (.bin .Sub (.bin .Sub (.bc .len (.cons (.v 6) .nil)) (.c (.int 1))) (.bin .Mod (.call i_law_take (.cons (.v 0) (.cons (.c (.int 5)) .nil))) (.bc .len (.cons (.v 6) .nil))))) (.call i_law_take (.cons (.v 0) (.cons (.c (.int 2)) .nil)))) (.nm 7) (.rng1 (.v 2)) .no [7]) .nil)))
  (.cons (.ret (.v 5))
  .nil)))))))
def d_law_machine : Df := ⟨["_law_state_here", "_law_inputs", "_law_outputs", "_law_most"], ["_law_state_here", "_law_inputs", "_law_outputs", "_law_most", "_law_initials", "_law_graph", "_law_literals", "_law_k"], b_law_machine, []⟩
/-- _law_copy: 0 _law_graph, 1 _law_flips, 2 _law_initials, 3 _law_other, 4 _law_literals, 5 _law_k, 6 _law_pair_here, 7 _law_a, 8 _law_b, 9 _law_literal -/
def b_law_copy : Sms := (.cons (.asl 2 (.bin .BitXor (.ix (.ix (.fld c_Graph (.v 0) "registers") (.v 5)) (.c (.int 1))) (.ix (.v 1) (.v 5))) (.nm 5) (.rng1 (.bc .len (.cons (.v 1) .nil))) .no [5])
  (.cons (.asg (.nm 3) (.mk c_Graph i_Graph_init (.cons (.fld c_Graph (.v 0) "inputs") (.cons (.v 2) .nil))))
  (.cons (.asg (.nm 4) (.lc (.bin .Mult (.c (.int 2)) (.v 5)) (.nm 5) (.rng1 (.bin .Add (.c (.int 1)) (.fld c_Graph (.v 0) "inputs"))) .no [5]))
  (.cons (.for_ (.nm 5) (.rng1 (.bc .len (.cons (.v 1) .nil))) (.cons (.exp (.bm .append (.v 4) (.cons (.bin .BitXor (.meth i_Graph_register_literal c_Graph "register_literal" (.v 3) (.cons (.v 5) .nil)) (.ix (.v 1) (.v 5))) .nil)))
  .nil))
  (.cons (.for_ (.nm 6) (.lst (.fld c_Graph (.v 0) "ands")) (.cons (.asg (.nm 7) (.bin .BitXor (.ix (.v 4) (.bin .FloorDiv (.ix (.v 6) (.c (.int 0))) (.c (.int 2)))) (.bin .Mod (.bc .int (.cons (.ix (.v 6) (.c (.int 0))) .nil)) (.c (.int 2)))))
  (.cons (.asg (.nm 8) (.bin .BitXor (.ix (.v 4) (.bin .FloorDiv (.ix (.v 6) (.c (.int 1))) (.c (.int 2)))) (.bin .Mod (.bc .int (.cons (.ix (.v 6) (.c (.int 1))) .nil)) (.c (.int 2)))))
  (.cons (.exp (.bm .append (.v 4) (.cons (.meth i_Graph_conjunction c_Graph "conjunction" (.v 3) (.cons (.v 7) (.cons (.v 8) .nil))) .nil)))
  .nil))))
  (.cons (.for_ (.nm 5) (.rng1 (.bc .len (.cons (.v 1) .nil))) (.cons (.asg (.nm 9) (.ix (.ix (.fld c_Graph (.v 0) "registers") (.v 5)) (.c (.int 0))))
  (.cons (.exp (.meth i_Graph_set_next c_Graph "set_next" (.v 3) (.cons (.v 5) (.cons (.bin .BitXor (.bin .BitXor (.ix (.v 4) (.bin .FloorDiv (.v 9) (.c (.int 2)))) (.bin .Mod (.bc .int (.cons (.v 9) .nil)) (.c (.int 2)))) (.ix (.v 1) (.v 5))) .nil))))
  .nil)))
  (.cons (.exp (.meth i_Graph_set_outputs c_Graph "set_outputs" (.v 3) (.cons (.lc (.bin .BitXor (.ix (.v 4) (.bin .FloorDiv (.v 9) (.c (.int 2)))) (.bin .Mod (.bc .int (.cons (.v 9) .nil)) (.c (.int 2)))) (.nm 9) (.lst (.fld c_Graph (.v 0) "outputs")) .no [9]) .nil)))
  (.cons (.ret (.v 3))
  .nil))))))))
def d_law_copy : Df := ⟨["_law_graph", "_law_flips"], ["_law_graph", "_law_flips", "_law_initials", "_law_other", "_law_literals", "_law_k", "_law_pair_here", "_law_a", "_law_b", "_law_literal"], b_law_copy, []⟩
/-- _law_spoil: 0 _law_state_here, 1 _law_graph, 2 _law_choice, 3 _law_at, 4 _law_outputs -/
def b_law_spoil : Sms := (.cons (.asg (.nm 2) (.call i_law_take (.cons (.v 0) (.cons (.c (.int 4)) .nil))))
  (.cons (.ite (.and (.cmp .Eq (.v 2) (.c (.int 0))) (.cmp .Gt (.bc .len (.cons (.fld c_Graph (.v 1) "registers") .nil)) (.c (.int 0)))) (.cons (.asg (.nm 3) (.call i_law_take (.cons (.v 0) (.cons (.bc .len (.cons (.fld c_Graph (.v 1) "registers") .nil)) .nil))))
  (.cons (.exp (.meth i_Graph_set_next c_Graph "set_next" (.v 1) (.cons (.v 3) (.cons (.bin .BitXor (.ix (.ix (.fld c_Graph (.v 1) "registers") (.v 3)) (.c (.int 0))) (.c (.int 1))) .nil))))
  .nil)) .nil)
  (.cons (.ite (.cmp .Eq (.v 2) (.c (.int 1))) (.cons (.asg (.nm 3) (.call i_law_take (.cons (.v 0) (.cons (.bc .len (.cons (.fld c_Graph (.v 1) "outputs") .nil)) .nil))))
  (.cons (.asg (.nm 4) (.bc .list (.cons (.fld c_Graph (.v 1) "outputs") .nil)))
  (.cons (.asg (.sub (.v 4) (.v 3)) (.call i_law_take (.cons (.v 0) (.cons (.bin .Mult (.c (.int 2)) (.meth i_Graph_node_count c_Graph "node_count" (.v 1) .nil)) .nil))))
  (.cons (.exp (.meth i_Graph_set_outputs c_Graph "set_outputs" (.v 1) (.cons (.v 4) .nil)))
  .nil)))) .nil)
  .nil)))
def d_law_spoil : Df := ⟨["_law_state_here", "_law_graph"], ["_law_state_here", "_law_graph", "_law_choice", "_law_at", "_law_outputs"], b_law_spoil, []⟩
/-- _law_pair: 0 _law_state_here, 1 _law_inputs, 2 _law_outputs, 3 _law_most, 4 _law_first, 5 _law_second -/
def b_law_pair : Sms := (.cons (.asg (.nm 4) (.call i_law_machine (.cons (.v 0) (.cons (.v 1) (.cons (.v 2) (.cons (.v 3) .nil))))))
  (.cons (.ite (.cmp .Eq (.call i_law_take (.cons (.v 0) (.cons (.c (.int 8)) .nil))) (.c (.int 0))) (.cons (.ret (.tup (.cons (.v 4) (.cons (.call i_law_machine (.cons (.v 0) (.cons (.v 1) (.cons (.v 2) (.cons (.v 3) .nil))))) .nil))))
  .nil) .nil)
  (.cons (.asg (.nm 5) (.call i_law_copy (.cons (.v 4) (.cons (.call i_law_bits (.cons (.v 0) (.cons (.bc .len (.cons (.fld c_Graph (.v 4) "registers") .nil)) .nil))) .nil))))
  (.cons (.exp (.call i_law_spoil (.cons (.v 0) (.cons (.v 5) .nil))))
  (.cons (.ret (.tup (.cons (.v 4) (.cons (.v 5) .nil))))
  .nil)))))
def d_law_pair : Df := ⟨["_law_state_here", "_law_inputs", "_law_outputs", "_law_most"], ["_law_state_here", "_law_inputs", "_law_outputs", "_law_most", "_law_first", "_law_second"], b_law_pair, []⟩
/-- _law_classes: 0 _law_state_here, 1 _law_first, 2 _law_second, 3 _law_bits_here, 4 _law_classes_here, 5 _law_k, 6 _law_leader, 7 _law_pair_here -/
def b_law_classes : Sms := (.cons (.asl 3 (.ix (.v 7) (.c (.int 1))) (.nm 7) (.lst (.bin .Add (.fld c_Graph (.v 1) "registers") (.fld c_Graph (.v 2) "registers"))) .no [7])
  (.cons (.asg (.nm 4) (.lst .nil))
  (.cons (.for_ (.nm 5) (.rng1 (.bc .len (.cons (.v 3) .nil))) (.cons (.asg (.nm 6) (.bin .Sub (.call i_law_take (.cons (.v 0) (.cons (.bin .Add (.v 5) (.c (.int 2))) .nil))) (.c (.int 1))))
  (.cons (.ite (.and (.cmp .GtE (.v 6) (.c (.int 0))) (.and (.cmp .Lt (.v 6) (.v 5)) (.cmp .NotEq (.ix (.ix (.v 4) (.v 6)) (.c (.int 0))) (.v 6)))) (.cons (.asg (.nm 6) (.v 5))
  .nil) .nil)
  (.cons (.ite (.cmp .Eq (.v 6) (.v 5)) (.cons (.exp (.bm .append (.v 4) (.cons (.tup (.cons (.v 5) (.cons (.c (.int 0)) .nil))) .nil)))
  .nil) (.cons (.ite (.cmp .Eq (.v 6) (.neg (.c (.int 1)))) (.cons (.exp (.bm .append (.v 4) (.cons (.tup (.cons (.neg (.c (.int 1))) (.cons (.ix (.v 3) (.v 5)) .nil))) .nil)))
  .nil) (.cons (.exp (.bm .append (.v 4) (.cons (.tup (.cons (.v 6) (.cons (.bin .BitXor (.ix (.v 3) (.v 5)) (.ix (.v 3) (.v 6))) .nil))) .nil)))
  .nil))
  .nil))
  .nil))))
  (.cons (.ret (.v 4))
  .nil))))
def d_law_classes : Df := ⟨["_law_state_here", "_law_first", "_law_second"], ["_law_state_here", "_law_first", "_law_second", "_law_bits_here", "_law_classes_here", "_law_k", "_law_leader", "_law_pair_here"], b_law_classes, []⟩
/-- _law_paired: 0 _law_first, 1 _law_second, 2 _law_count, 3 _law_bits_here, 4 _law_classes_here, 5 _law_k, 6 _law_pair_here -/
def b_law_paired : Sms := (.cons (.asg (.nm 2) (.bc .len (.cons (.fld c_Graph (.v 0) "registers") .nil)))
  (.cons (.asl 3 (.ix (.v 6) (.c (.int 1))) (.nm 6) (.lst (.bin .Add (.fld c_Graph (.v 0) "registers") (.fld c_Graph (.v 1) "registers"))) .no [6])
  (.cons (.asl 4 (.tup (.cons (.v 5) (.cons (.c (.int 0)) .nil))) (.nm 5) (.rng1 (.v 2)) .no [5])
  (.cons (.for_ (.nm 5) (.rng1 (.bc .len (.cons (.fld c_Graph (.v 1) "registers") .nil))) (.cons (.ite (.cmp .Lt (.v 5) (.v 2)) (.cons (.exp (.bm .append (.v 4) (.cons (.tup (.cons (.v 5) (.cons (.bin .BitXor (.ix (.v 3) (.v 5)) (.ix (.v 3) (.bin .Add (.v 2) (.v 5)))) .nil))) .nil)))
  .nil) (.cons (.exp (.bm .append (.v 4) (.cons (.tup (.cons (.bin .Add (.v 2) (.v 5)) (.cons (.c (.int 0)) .nil))) .nil)))
  .nil))
  .nil))
  (.cons (.ret (.v 4))
  .nil)))))
def d_law_paired : Df := ⟨["_law_first", "_law_second"], ["_law_first", "_law_second", "_law_count", "_law_bits_here", "_law_classes_here", "_law_k", "_law_pair_here"], b_law_paired, []⟩
/-- _law_pair_right: 0 _law_classes_here, 1 _law_k, 2 _law_bits_here, 3 _law_pair_here, 4 _law_leader, 5 _law_flip -/
def b_law_pair_right : Sms := (.cons (.asg (.nm 3) (.ix (.v 0) (.v 1)))
  (.cons (.asg (.nm 4) (.ix (.v 3) (.c (.int 0))))
  (.cons (.asg (.nm 5) (.ix (.v 3) (.c (.int 1))))
  (.cons (.ite (.or (.cmp .NotIn (.v 5) (.lst (.cons (.c (.int 0)) (.cons (.c (.int 1)) .nil)))) (.or (.cmp .Lt (.v 4) (.neg (.c (.int 1)))) (.cmp .Gt (.v 4) (.v 1)))) (.cons (.ret (.c (.bl false)))
  .nil) .nil)
  (.cons (.ite (.cmp .Eq (.v 4) (.neg (.c (.int 1)))) (.cons (.ret (.cmp .Eq (.ix (.v 2) (.v 1)) (.v 5)))
  .nil) .nil)
  (.cons (.ite (.cmp .Eq (.v 4) (.v 1)) (.cons (.ret (.cmp .Eq (.v 5) (.c (.int 0))))
  .nil) .nil)
  (.cons (.ret (.and (.cmp .Eq (.ix (.ix (.v 0) (.v 4)) (.c (.int 0))) (.v 4)) (.cmp .Eq (.ix (.v 2) (.v 1)) (.bin .BitXor (.ix (.v 2) (.v 4)) (.v 5)))))
  .nil)))))))
def d_law_pair_right : Df := ⟨["_law_classes_here", "_law_k", "_law_bits_here"], ["_law_classes_here", "_law_k", "_law_bits_here", "_law_pair_here", "_law_leader", "_law_flip"], b_law_pair_right, []⟩
/-- _law_right: 0 _law_value, 1 _law_bits_here, 2 _law_pair_here, 3 _law_item, 4 _law_k -/
def b_law_right : Sms := (.cons (.ite (.or (.and (.not (.tr (.bc .isi (.cons (.v 0) (.cons (.ty "list") .nil))))) (.not (.tr (.bc .isi (.cons (.v 0) (.cons (.ty "tuple") .nil)))))) (.cmp .NotEq (.bc .len (.cons (.v 0) .nil)) (.bc .len (.cons (.v 1) .nil)))) (.cons (.ret (.c (.bl false)))
  .nil) .nil)
  (.cons (.for_ (.nm 2) (.any (.lst (.v 0)) (.any (.tup (.v 0)) (.txt (.v 0)))) (.cons (.ite (.or (.and (.not (.tr (.bc .isi (.cons (.v 2) (.cons (.ty "list") .nil))))) (.not (.tr (.bc .isi (.cons (.v 2) (.cons (.ty "tuple") .nil)))))) (.cmp .NotEq (.bc .len (.cons (.v 2) .nil)) (.c (.int 2)))) (.cons (.ret (.c (.bl false)))
  .nil) .nil)
  (.cons (.for_ (.nm 3) (.any (.lst (.v 2)) (.any (.tup (.v 2)) (.txt (.v 2)))) (.cons (.ite (.or (.not (.tr (.bc .isi (.cons (.v 3) (.cons (.ty "int") .nil))))) (.tr (.bc .isi (.cons (.v 3) (.cons (.ty "bool") .nil))))) (.cons (.ret (.c (.bl false)))
  .nil) .nil)
  .nil))
  .nil)))
  (.cons (.ret (.cmp .Eq (.bc .len (.cons (.lc (.v 4) (.nm 4) (.rng1 (.bc .len (.cons (.v 1) .nil))) (.so (.not (.tr (.call i_law_pair_right (.cons (.v 0) (.cons (.v 4) (.cons (.v 1) .nil))))))) [4]) .nil)) (.c (.int 0))))
  .nil)))
def d_law_right : Df := ⟨["_law_value", "_law_bits_here"], ["_law_value", "_law_bits_here", "_law_pair_here", "_law_item", "_law_k"], b_law_right, []⟩
/-- _law_strange: 0 _law_state_here, 1 _law_things -/
def b_law_strange : Sms := (.cons (.asg (.nm 1) (.lst (.cons (.c .non) (.cons (.c (.bl true)) (.cons (.c (.str (S []))) (.cons (.c (.str (S [97, 98]))) (.cons (.c (.int 0)) (.cons (.neg (.c (.int 2))) (.cons (.c (.int 7)) (.cons (.lst .nil) (.cons (.tup .nil) (.cons (.lst (.cons (.c (.int 0)) .nil)) (.cons (.tup (.cons (.c (.int 0)) (.cons (.c (.int 0)) (.cons (.c (.int 0)) .nil)))) (.cons (.lst (.cons (.c (.int 0)) (.cons (.c (.int 1)) .nil))) (.cons (.tup (.cons (.c (.int 1)) (.cons (.c (.int 1)) .nil))) (.cons .dct0 (.cons (.dct (.cons (.c (.int 1)) .nil) (.cons (.c (.int 2)) .nil)) (.cons (.tup (.cons (.c (.bl true)) (.cons (.c (.bl false)) .nil))) .nil))))))))))))))))))
  (.cons (.ret (.ix (.v 1) (.call i_law_take (.cons (.v 0) (.cons (.c (.int 16)) .nil)))))
  .nil))
def d_law_strange : Df := ⟨["_law_state_here"], ["_law_state_here", "_law_things"], b_law_strange, []⟩
/-- _law_bent: 0 _law_state_here, 1 _law_classes_here, 2 _law_choice, 3 _law_at, 4 _law_leader, 5 _law_flip, 6 _law_pair_here -/
def b_law_bent : Sms := (.cons (.asg (.nm 2) (.call i_law_take (.cons (.v 0) (.cons (.c (.int 8)) .nil))))
  (.cons (.ite (.or (.cmp .Eq (.v 2) (.c (.int 0))) (.cmp .Eq (.bc .len (.cons (.v 1) .nil)) (.c (.int 0)))) (.cons (.ret (.call i_law_strange (.cons (.v 0) .nil)))
  .nil) .nil)
  (.cons (.asg (.nm 3) (.call i_law_take (.cons (.v 0) (.cons (.bc .len (.cons (.v 1) .nil)) .nil))))
  (.cons (.asg (.tup (.cons (.nm 4) (.cons (.nm 5) .nil))) (.ix (.v 1) (.v 3)))
  (.cons (.ite (.cmp .Eq (.v 2) (.c (.int 1))) (.cons (.ret (.bin .Add (.bin .Add (.sl (.v 1) .no (.so (.v 3))) (.lst (.cons (.tup (.cons (.v 4) (.cons (.bin .Sub (.c (.int 1)) (.v 5)) .nil))) .nil))) (.sl (.v 1) (.so (.bin .Add (.v 3) (.c (.int 1)))) .no)))
  .nil) .nil)
  (.cons (.ite (.cmp .Eq (.v 2) (.c (.int 2))) (.cons (.ret (.bin .Add (.bin .Add (.sl (.v 1) .no (.so (.v 3))) (.lst (.cons (.tup (.cons (.bin .Sub (.call i_law_take (.cons (.v 0) (.cons (.bin .Add (.bc .len (.cons (.v 1) .nil)) (.c (.int 2))) .nil))) (.c (.int 1))) (.cons (.v 5) .nil))) .nil))) (.sl (.v 1) (.so (.bin .Add (.v 3) (.c (.int 1)))) .no)))
  .nil) .nil)
  (.cons (.ite (.cmp .Eq (.v 2) (.c (.int 3))) (.cons (.ret (.bin .Add (.sl (.v 1) .no (.so (.v 3))) (.sl (.v 1) (.so (.bin .Add (.v 3) (.c (.int 1)))) .no)))
  .nil) .nil)
  (.cons (.ite (.cmp .Eq (.v 2) (.c (.int 4))) (.cons (.ret (.bin .Add (.bin .Add (.sl (.v 1) .no (.so (.v 3))) (.lst (.cons (.call i_law_strange (.cons (.v 0) .nil)) .nil))) (.sl (.v 1) (.so (.bin .Add (.v 3) (.c (.int 1)))) .no)))
  .nil) .nil)
  (.cons (.ite (.cmp .Eq (.v 2) (.c (.int 5))) (.cons (.ret (.bc .tuple (.cons (.lc (.bc .list (.cons (.v 6) .nil)) (.nm 6) (.lst (.v 1)) .no [6]) .nil)))
  .nil) .nil)
  (.cons (.ret (.v 1))
  .nil))))))))))
def d_law_bent : Df := ⟨["_law_state_here", "_law_classes_here"], ["_law_state_here", "_law_classes_here", "_law_choice", "_law_at", "_law_leader", "_law_flip", "_law_pair_here"], b_law_bent, []⟩
/-- law: 0 _law_script, 1 _law_state_here, 2 _law_classes_here, 3 _law_value, 4 _law_bits_here, 5 _law_kept, 6 _law_told, 7 _law_first, 8 _law_second, 9 _law_pair_here -/
def b_law : Sms := (.cons (.asg (.nm 1) (.call i_law_state (.cons (.v 0) .nil)))
  (.cons (.asg (.tup (.cons (.nm 7) (.cons (.nm 8) .nil))) (.call i_law_pair (.cons (.v 1) (.cons (.c (.int 1)) (.cons (.c (.int 1)) (.cons (.c (.int 4)) .nil))))))
  (.cons (.asg (.nm 2) (.call i_law_paired (.cons (.v 7) (.cons (.v 8) .nil))))
  (.cons (.ite (.cmp .Eq (.call i_law_take (.cons (.v 1) (.cons (.c (.int 2)) .nil))) (.c (.int 0))) (.cons (.asg (.nm 2) (.call i_law_classes (.cons (.v 1) (.cons (.v 7) (.cons (.v 8) .nil)))))
  .nil) .nil)
  (.cons (.asg (.nm 3) (.call i_law_bent (.cons (.v 1) (.cons (.v 2) .nil))))
  (.cons (.asl 4 (.ix (.v 9) (.c (.int 1))) (.nm 9) (.lst (.bin .Add (.fld c_Graph (.v 7) "registers") (.fld c_Graph (.v 8) "registers"))) .no [9])
  (.cons (.asg (.nm 5) (.bc .repr (.cons (.tup (.cons (.v 3) (.cons (.fld c_Graph (.v 7) "registers") (.cons (.fld c_Graph (.v 8) "registers") .nil)))) .nil)))
  (.cons (.asg (.nm 6) (.call i_are_classes (.cons (.v 7) (.cons (.v 8) (.cons (.v 3) .nil)))))
  (.cons (.ret (.and (.cmp .Eq (.bc .repr (.cons (.v 6) .nil)) (.bc .repr (.cons (.call i_law_right (.cons (.v 3) (.cons (.v 4) .nil))) .nil))) (.cmp .Eq (.bc .repr (.cons (.tup (.cons (.v 3) (.cons (.fld c_Graph (.v 7) "registers") (.cons (.fld c_Graph (.v 8) "registers") .nil)))) .nil)) (.v 5))))
  .nil)))))))))
def d_law : Df := ⟨["_law_script"], ["_law_script", "_law_state_here", "_law_classes_here", "_law_value", "_law_bits_here", "_law_kept", "_law_told", "_law_first", "_law_second", "_law_pair_here"], b_law, []⟩
def Dl : List Df := [d_wall, d_negated, d_Graph_init, d_Graph_input_literal, d_Graph_register_literal, d_Graph_node_count, d_Graph_conjunction, d_Graph_disjunction, d_Graph_exclusive, d_Graph_choice, d_Graph_set_next, d_Graph_set_outputs, d_initial_state, d_is_integer, d_is_row, d_are_integers, d_is_pair_right, d_are_classes, d_law_state, d_law_take, d_law_bits, d_law_operate, d_law_grow, d_law_machine, d_law_copy, d_law_spoil, d_law_pair, d_law_classes, d_law_paired, d_law_pair_right, d_law_right, d_law_strange, d_law_bent, d_law]
def D (i : Nat) : Df := Dl.getD i ⟨[], [], .nil, []⟩
theorem in_wall {v : Ev} {n : Nat} {x0 : V} {H : Hp} {Q : VK} {E : XK} (h : b_wall.den (evAt v D n) (fun c d _ H1 => E c d H1) ⟨fun _ H1 => Q .non H1, Q, fun _ _ => False, fun _ _ => False⟩ [some x0] H) : spOf v D (n + 1) i_wall [x0] H Q E := r_in (f := i_wall) (b := b_wall) (N := ["k"]) (ps := ["k"]) (kw := []) rfl rfl rfl h
theorem in_negated {v : Ev} {n : Nat} {x0 : V} {H : Hp} {Q : VK} {E : XK} (h : b_negated.den (evAt v D n) (fun c d _ H1 => E c d H1) ⟨fun _ H1 => Q .non H1, Q, fun _ _ => False, fun _ _ => False⟩ [some x0] H) : spOf v D (n + 1) i_negated [x0] H Q E := r_in (f := i_negated) (b := b_negated) (N := ["literal"]) (ps := ["literal"]) (kw := []) rfl rfl rfl h
theorem in_Graph_init {v : Ev} {n : Nat} {x0 x1 x2 : V} {H : Hp} {Q : VK} {E : XK} (h : b_Graph_init.den (evAt v D n) (fun c d _ H1 => E c d H1) ⟨fun _ H1 => Q .non H1, Q, fun _ _ => False, fun _ _ => False⟩ [some x0, some x1, some x2, none, none] H) : spOf v D (n + 1) i_Graph_init [x0, x1, x2] H Q E := r_in (f := i_Graph_init) (b := b_Graph_init) (N := ["self", "inputs", "initials", "index", "literal"]) (ps := ["self", "inputs", "initials"]) (kw := []) rfl rfl rfl h
theorem in_Graph_input_literal {v : Ev} {n : Nat} {x0 x1 : V} {H : Hp} {Q : VK} {E : XK} (h : b_Graph_input_literal.den (evAt v D n) (fun c d _ H1 => E c d H1) ⟨fun _ H1 => Q .non H1, Q, fun _ _ => False, fun _ _ => False⟩ [some x0, some x1] H) : spOf v D (n + 1) i_Graph_input_literal [x0, x1] H Q E := r_in (f := i_Graph_input_literal) (b := b_Graph_input_literal) (N := ["self", "index"]) (ps := ["self", "index"]) (kw := []) rfl rfl rfl h
theorem in_Graph_register_literal {v : Ev} {n : Nat} {x0 x1 : V} {H : Hp} {Q : VK} {E : XK} (h : b_Graph_register_literal.den (evAt v D n) (fun c d _ H1 => E c d H1) ⟨fun _ H1 => Q .non H1, Q, fun _ _ => False, fun _ _ => False⟩ [some x0, some x1] H) : spOf v D (n + 1) i_Graph_register_literal [x0, x1] H Q E := r_in (f := i_Graph_register_literal) (b := b_Graph_register_literal) (N := ["self", "index"]) (ps := ["self", "index"]) (kw := []) rfl rfl rfl h
theorem in_Graph_node_count {v : Ev} {n : Nat} {x0 : V} {H : Hp} {Q : VK} {E : XK} (h : b_Graph_node_count.den (evAt v D n) (fun c d _ H1 => E c d H1) ⟨fun _ H1 => Q .non H1, Q, fun _ _ => False, fun _ _ => False⟩ [some x0] H) : spOf v D (n + 1) i_Graph_node_count [x0] H Q E := r_in (f := i_Graph_node_count) (b := b_Graph_node_count) (N := ["self"]) (ps := ["self"]) (kw := []) rfl rfl rfl h
theorem in_Graph_conjunction {v : Ev} {n : Nat} {x0 x1 x2 : V} {H : Hp} {Q : VK} {E : XK} (h : b_Graph_conjunction.den (evAt v D n) (fun c d _ H1 => E c d H1) ⟨fun _ H1 => Q .non H1, Q, fun _ _ => False, fun _ _ => False⟩ [some x0, some x1, some x2, none] H) : spOf v D (n + 1) i_Graph_conjunction [x0, x1, x2] H Q E := r_in (f := i_Graph_conjunction) (b := b_Graph_conjunction) (N := ["self", "a", "b", "literal"]) (ps := ["self", "a", "b"]) (kw := []) rfl rfl rfl h
theorem in_Graph_disjunction {v : Ev} {n : Nat} {x0 x1 x2 : V} {H : Hp} {Q : VK} {E : XK} (h : b_Graph_disjunction.den (evAt v D n) (fun c d _ H1 => E c d H1) ⟨fun _ H1 => Q .non H1, Q, fun _ _ => False, fun _ _ => False⟩ [some x0, some x1, some x2] H) : spOf v D (n + 1) i_Graph_disjunction [x0, x1, x2] H Q E := r_in (f := i_Graph_disjunction) (b := b_Graph_disjunction) (N := ["self", "a", "b"]) (ps := ["self", "a", "b"]) (kw := []) rfl rfl rfl h
theorem in_Graph_exclusive {v : Ev} {n : Nat} {x0 x1 x2 : V} {H : Hp} {Q : VK} {E : XK} (h : b_Graph_exclusive.den (evAt v D n) (fun c d _ H1 => E c d H1) ⟨fun _ H1 => Q .non H1, Q, fun _ _ => False, fun _ _ => False⟩ [some x0, some x1, some x2, none, none] H) : spOf v D (n + 1) i_Graph_exclusive [x0, x1, x2] H Q E := r_in (f := i_Graph_exclusive) (b := b_Graph_exclusive) (N := ["self", "a", "b", "first", "second"]) (ps := ["self", "a", "b"]) (kw := []) rfl rfl rfl h
theorem in_Graph_choice {v : Ev} {n : Nat} {x0 x1 x2 x3 : V} {H : Hp} {Q : VK} {E : XK} (h : b_Graph_choice.den (evAt v D n) (fun c d _ H1 => E c d H1) ⟨fun _ H1 => Q .non H1, Q, fun _ _ => False, fun _ _ => False⟩ [some x0, some x1, some x2, some x3, none, none] H) : spOf v D (n + 1) i_Graph_choice [x0, x1, x2, x3] H Q E := r_in (f := i_Graph_choice) (b := b_Graph_choice) (N := ["self", "c", "a", "b", "first", "second"]) (ps := ["self", "c", "a", "b"]) (kw := []) rfl rfl rfl h
theorem in_Graph_set_next {v : Ev} {n : Nat} {x0 x1 x2 : V} {H : Hp} {Q : VK} {E : XK} (h : b_Graph_set_next.den (evAt v D n) (fun c d _ H1 => E c d H1) ⟨fun _ H1 => Q .non H1, Q, fun _ _ => False, fun _ _ => False⟩ [some x0, some x1, some x2] H) : spOf v D (n + 1) i_Graph_set_next [x0, x1, x2] H Q E := r_in (f := i_Graph_set_next) (b := b_Graph_set_next) (N := ["self", "index", "literal"]) (ps := ["self", "index", "literal"]) (kw := []) rfl rfl rfl h
theorem in_Graph_set_outputs {v : Ev} {n : Nat} {x0 x1 : V} {H : Hp} {Q : VK} {E : XK} (h : b_Graph_set_outputs.den (evAt v D n) (fun c d _ H1 => E c d H1) ⟨fun _ H1 => Q .non H1, Q, fun _ _ => False, fun _ _ => False⟩ [some x0, some x1] H) : spOf v D (n + 1) i_Graph_set_outputs [x0, x1] H Q E := r_in (f := i_Graph_set_outputs) (b := b_Graph_set_outputs) (N := ["self", "literals"]) (ps := ["self", "literals"]) (kw := []) rfl rfl rfl h
theorem in_initial_state {v : Ev} {n : Nat} {x0 : V} {H : Hp} {Q : VK} {E : XK} (h : b_initial_state.den (evAt v D n) (fun c d _ H1 => E c d H1) ⟨fun _ H1 => Q .non H1, Q, fun _ _ => False, fun _ _ => False⟩ [some x0, none, none] H) : spOf v D (n + 1) i_initial_state [x0] H Q E := r_in (f := i_initial_state) (b := b_initial_state) (N := ["graph", "following", "initial"]) (ps := ["graph"]) (kw := []) rfl rfl rfl h
theorem in_is_integer {v : Ev} {n : Nat} {x0 : V} {H : Hp} {Q : VK} {E : XK} (h : b_is_integer.den (evAt v D n) (fun c d _ H1 => E c d H1) ⟨fun _ H1 => Q .non H1, Q, fun _ _ => False, fun _ _ => False⟩ [some x0] H) : spOf v D (n + 1) i_is_integer [x0] H Q E := r_in (f := i_is_integer) (b := b_is_integer) (N := ["value"]) (ps := ["value"]) (kw := []) rfl rfl rfl h
theorem in_is_row {v : Ev} {n : Nat} {x0 : V} {H : Hp} {Q : VK} {E : XK} (h : b_is_row.den (evAt v D n) (fun c d _ H1 => E c d H1) ⟨fun _ H1 => Q .non H1, Q, fun _ _ => False, fun _ _ => False⟩ [some x0] H) : spOf v D (n + 1) i_is_row [x0] H Q E := r_in (f := i_is_row) (b := b_is_row) (N := ["value"]) (ps := ["value"]) (kw := []) rfl rfl rfl h
theorem in_are_integers {v : Ev} {n : Nat} {x0 : V} {H : Hp} {Q : VK} {E : XK} (h : b_are_integers.den (evAt v D n) (fun c d _ H1 => E c d H1) ⟨fun _ H1 => Q .non H1, Q, fun _ _ => False, fun _ _ => False⟩ [some x0, none] H) : spOf v D (n + 1) i_are_integers [x0] H Q E := r_in (f := i_are_integers) (b := b_are_integers) (N := ["value", "item"]) (ps := ["value"]) (kw := []) rfl rfl rfl h
theorem in_is_pair_right {v : Ev} {n : Nat} {x0 x1 x2 : V} {H : Hp} {Q : VK} {E : XK} (h : b_is_pair_right.den (evAt v D n) (fun c d _ H1 => E c d H1) ⟨fun _ H1 => Q .non H1, Q, fun _ _ => False, fun _ _ => False⟩ [some x0, some x1, some x2, none, none] H) : spOf v D (n + 1) i_is_pair_right [x0, x1, x2] H Q E := r_in (f := i_is_pair_right) (b := b_is_pair_right) (N := ["classes", "index", "bits", "leader", "flip"]) (ps := ["classes", "index", "bits"]) (kw := []) rfl rfl rfl h
theorem in_are_classes {v : Ev} {n : Nat} {x0 x1 x2 : V} {H : Hp} {Q : VK} {E : XK} (h : b_are_classes.den (evAt v D n) (fun c d _ H1 => E c d H1) ⟨fun _ H1 => Q .non H1, Q, fun _ _ => False, fun _ _ => False⟩ [some x0, some x1, some x2, none, none, none] H) : spOf v D (n + 1) i_are_classes [x0, x1, x2] H Q E := r_in (f := i_are_classes) (b := b_are_classes) (N := ["first", "second", "classes", "bits", "pair", "index"]) (ps := ["first", "second", "classes"]) (kw := []) rfl rfl rfl h
theorem in_law_state {v : Ev} {n : Nat} {x0 : V} {H : Hp} {Q : VK} {E : XK} (h : b_law_state.den (evAt v D n) (fun c d _ H1 => E c d H1) ⟨fun _ H1 => Q .non H1, Q, fun _ _ => False, fun _ _ => False⟩ [some x0, none, none] H) : spOf v D (n + 1) i_law_state [x0] H Q E := r_in (f := i_law_state) (b := b_law_state) (N := ["_law_script", "_law_cells", "_law_cell"]) (ps := ["_law_script"]) (kw := []) rfl rfl rfl h
theorem in_law_take {v : Ev} {n : Nat} {x0 x1 : V} {H : Hp} {Q : VK} {E : XK} (h : b_law_take.den (evAt v D n) (fun c d _ H1 => E c d H1) ⟨fun _ H1 => Q .non H1, Q, fun _ _ => False, fun _ _ => False⟩ [some x0, some x1, none, none, none, none] H) : spOf v D (n + 1) i_law_take [x0, x1] H Q E := r_in (f := i_law_take) (b := b_law_take) (N := ["_law_state_here", "_law_most", "_law_cells", "_law_at", "_law_cell", "_law_mixed"]) (ps := ["_law_state_here", "_law_most"]) (kw := []) rfl rfl rfl h
theorem in_law_bits {v : Ev} {n : Nat} {x0 x1 : V} {H : Hp} {Q : VK} {E : XK} (h : b_law_bits.den (evAt v D n) (fun c d _ H1 => E c d H1) ⟨fun _ H1 => Q .non H1, Q, fun _ _ => False, fun _ _ => False⟩ [some x0, some x1, none] H) : spOf v D (n + 1) i_law_bits [x0, x1] H Q E := r_in (f := i_law_bits) (b := b_law_bits) (N := ["_law_state_here", "_law_count", "_law_k"]) (ps := ["_law_state_here", "_law_count"]) (kw := []) rfl rfl rfl h
theorem in_law_operate {v : Ev} {n : Nat} {x0 x1 x2 x3 x4 : V} {H : Hp} {Q : VK} {E : XK} (h : b_law_operate.den (evAt v D n) (fun c d _ H1 => E c d H1) ⟨fun _ H1 => Q .non H1, Q, fun _ _ => False, fun _ _ => False⟩ [some x0, some x1, some x2, some x3, some x4] H) : spOf v D (n + 1) i_law_operate [x0, x1, x2, x3, x4] H Q E := r_in (f := i_law_operate) (b := b_law_operate) (N := ["_law_graph", "_law_kind", "_law_x", "_law_y", "_law_z"]) (ps := ["_law_graph", "_law_kind", "_law_x", "_law_y", "_law_z"]) (kw := []) rfl rfl rfl h
theorem in_law_grow {v : Ev} {n : Nat} {x0 x1 x2 x3 : V} {H : Hp} {Q : VK} {E : XK} (h : b_law_grow.den (evAt v D n) (fun c d _ H1 => E c d H1) ⟨fun _ H1 => Q .non H1, Q, fun _ _ => False, fun _ _ => False⟩ [some x0, some x1, some x2, some x3, none, none, none, none, none] H) : spOf v D (n + 1) i_law_grow [x0, x1, x2, x3] H Q E := r_in (f := i_law_grow) (b := b_law_grow) (N := ["_law_state_here", "_law_graph", "_law_literals", "_law_count", "_law_k", "_law_kind", "_law_parts", "_law_j", "_law_place"]) (ps := ["_law_state_here", "_law_graph", "_law_literals", "_law_count"]) (kw := []) rfl rfl rfl h
theorem in_law_machine {v : Ev} {n : Nat} {x0 x1 x2 x3 : V} {H : Hp} {Q : VK} {E : XK} (h : b_law_machine.den (evAt v D n) (fun c d _ H1 => E c d H1) ⟨fun _ H1 => Q .non H1, Q, fun _ _ => False, fun _ _ => False⟩ [some x0, some x1, some x2, some x3, none, none, none, none] H) : spOf v D (n + 1) i_law_machine [x0, x1, x2, x3] H Q E := r_in (f := i_law_machine) (b := b_law_machine) (N := ["_law_state_here", "_law_inputs", "_law_outputs", "_law_most", "_law_initials", "_law_graph", "_law_literals", "_law_k"]) (ps := ["_law_state_here", "_law_inputs", "_law_outputs", "_law_most"]) (kw := []) rfl rfl rfl h
theorem in_law_copy {v : Ev} {n : Nat} {x0 x1 : V} {H : Hp} {Q : VK} {E : XK} (h : b_law_copy.den (evAt v D n) (fun c d _ H1 => E c d H1) ⟨fun _ H1 => Q .non H1, Q, fun _ _ => False, fun _ _ => False⟩ [some x0, some x1, none, none, none, none, none, none, none, none] H) : spOf v D (n + 1) i_law_copy [x0, x1] H Q E := r_in (f := i_law_copy) (b := b_law_copy) (N := ["_law_graph", "_law_flips", "_law_initials", "_law_other", "_law_literals", "_law_k", "_law_pair_here", "_law_a", "_law_b", "_law_literal"]) (ps := ["_law_graph", "_law_flips"]) (kw := []) rfl rfl rfl h
theorem in_law_spoil {v : Ev} {n : Nat} {x0 x1 : V} {H : Hp} {Q : VK} {E : XK} (h : b_law_spoil.den (evAt v D n) (fun c d _ H1 => E c d H1) ⟨fun _ H1 => Q .non H1, Q, fun _ _ => False, fun _ _ => False⟩ [some x0, some x1, none, none, none] H) : spOf v D (n + 1) i_law_spoil [x0, x1] H Q E := r_in (f := i_law_spoil) (b := b_law_spoil) (N := ["_law_state_here", "_law_graph", "_law_choice", "_law_at", "_law_outputs"]) (ps := ["_law_state_here", "_law_graph"]) (kw := []) rfl rfl rfl h
theorem in_law_pair {v : Ev} {n : Nat} {x0 x1 x2 x3 : V} {H : Hp} {Q : VK} {E : XK} (h : b_law_pair.den (evAt v D n) (fun c d _ H1 => E c d H1) ⟨fun _ H1 => Q .non H1, Q, fun _ _ => False, fun _ _ => False⟩ [some x0, some x1, some x2, some x3, none, none] H) : spOf v D (n + 1) i_law_pair [x0, x1, x2, x3] H Q E := r_in (f := i_law_pair) (b := b_law_pair) (N := ["_law_state_here", "_law_inputs", "_law_outputs", "_law_most", "_law_first", "_law_second"]) (ps := ["_law_state_here", "_law_inputs", "_law_outputs", "_law_most"]) (kw := []) rfl rfl rfl h
theorem in_law_classes {v : Ev} {n : Nat} {x0 x1 x2 : V} {H : Hp} {Q : VK} {E : XK} (h : b_law_classes.den (evAt v D n) (fun c d _ H1 => E c d H1) ⟨fun _ H1 => Q .non H1, Q, fun _ _ => False, fun _ _ => False⟩ [some x0, some x1, some x2, none, none, none, none, none] H) : spOf v D (n + 1) i_law_classes [x0, x1, x2] H Q E := r_in (f := i_law_classes) (b := b_law_classes) (N := ["_law_state_here", "_law_first", "_law_second", "_law_bits_here", "_law_classes_here", "_law_k", "_law_leader", "_law_pair_here"]) (ps := ["_law_state_here", "_law_first", "_law_second"]) (kw := []) rfl rfl rfl h
theorem in_law_paired {v : Ev} {n : Nat} {x0 x1 : V} {H : Hp} {Q : VK} {E : XK} (h : b_law_paired.den (evAt v D n) (fun c d _ H1 => E c d H1) ⟨fun _ H1 => Q .non H1, Q, fun _ _ => False, fun _ _ => False⟩ [some x0, some x1, none, none, none, none, none] H) : spOf v D (n + 1) i_law_paired [x0, x1] H Q E := r_in (f := i_law_paired) (b := b_law_paired) (N := ["_law_first", "_law_second", "_law_count", "_law_bits_here", "_law_classes_here", "_law_k", "_law_pair_here"]) (ps := ["_law_first", "_law_second"]) (kw := []) rfl rfl rfl h
theorem in_law_pair_right {v : Ev} {n : Nat} {x0 x1 x2 : V} {H : Hp} {Q : VK} {E : XK} (h : b_law_pair_right.den (evAt v D n) (fun c d _ H1 => E c d H1) ⟨fun _ H1 => Q .non H1, Q, fun _ _ => False, fun _ _ => False⟩ [some x0, some x1, some x2, none, none, none] H) : spOf v D (n + 1) i_law_pair_right [x0, x1, x2] H Q E := r_in (f := i_law_pair_right) (b := b_law_pair_right) (N := ["_law_classes_here", "_law_k", "_law_bits_here", "_law_pair_here", "_law_leader", "_law_flip"]) (ps := ["_law_classes_here", "_law_k", "_law_bits_here"]) (kw := []) rfl rfl rfl h
theorem in_law_right {v : Ev} {n : Nat} {x0 x1 : V} {H : Hp} {Q : VK} {E : XK} (h : b_law_right.den (evAt v D n) (fun c d _ H1 => E c d H1) ⟨fun _ H1 => Q .non H1, Q, fun _ _ => False, fun _ _ => False⟩ [some x0, some x1, none, none, none] H) : spOf v D (n + 1) i_law_right [x0, x1] H Q E := r_in (f := i_law_right) (b := b_law_right) (N := ["_law_value", "_law_bits_here", "_law_pair_here", "_law_item", "_law_k"]) (ps := ["_law_value", "_law_bits_here"]) (kw := []) rfl rfl rfl h
theorem in_law_strange {v : Ev} {n : Nat} {x0 : V} {H : Hp} {Q : VK} {E : XK} (h : b_law_strange.den (evAt v D n) (fun c d _ H1 => E c d H1) ⟨fun _ H1 => Q .non H1, Q, fun _ _ => False, fun _ _ => False⟩ [some x0, none] H) : spOf v D (n + 1) i_law_strange [x0] H Q E := r_in (f := i_law_strange) (b := b_law_strange) (N := ["_law_state_here", "_law_things"]) (ps := ["_law_state_here"]) (kw := []) rfl rfl rfl h
theorem in_law_bent {v : Ev} {n : Nat} {x0 x1 : V} {H : Hp} {Q : VK} {E : XK} (h : b_law_bent.den (evAt v D n) (fun c d _ H1 => E c d H1) ⟨fun _ H1 => Q .non H1, Q, fun _ _ => False, fun _ _ => False⟩ [some x0, some x1, none, none, none, none, none] H) : spOf v D (n + 1) i_law_bent [x0, x1] H Q E := r_in (f := i_law_bent) (b := b_law_bent) (N := ["_law_state_here", "_law_classes_here", "_law_choice", "_law_at", "_law_leader", "_law_flip", "_law_pair_here"]) (ps := ["_law_state_here", "_law_classes_here"]) (kw := []) rfl rfl rfl h
theorem in_law {v : Ev} {n : Nat} {x0 : V} {H : Hp} {Q : VK} {E : XK} (h : b_law.den (evAt v D n) (fun c d _ H1 => E c d H1) ⟨fun _ H1 => Q .non H1, Q, fun _ _ => False, fun _ _ => False⟩ [some x0, none, none, none, none, none, none, none, none, none] H) : spOf v D (n + 1) i_law [x0] H Q E := r_in (f := i_law) (b := b_law) (N := ["_law_script", "_law_state_here", "_law_classes_here", "_law_value", "_law_bits_here", "_law_kept", "_law_told", "_law_first", "_law_second", "_law_pair_here"]) (ps := ["_law_script"]) (kw := []) rfl rfl rfl h
def ck : CK where
  N := []
  sc := ⟨.function, [], false, false, []⟩
  fn := fun i => ([("_wall" : Str), ("negated" : Str), ("__init__" : Str), ("input_literal" : Str), ("register_literal" : Str), ("node_count" : Str), ("conjunction" : Str), ("disjunction" : Str), ("exclusive" : Str), ("choice" : Str), ("set_next" : Str), ("set_outputs" : Str), ("initial_state" : Str), ("is_integer" : Str), ("is_row" : Str), ("are_integers" : Str), ("is_pair_right" : Str), ("are_classes" : Str), ("_law_state" : Str), ("_law_take" : Str), ("_law_bits" : Str), ("_law_operate" : Str), ("_law_grow" : Str), ("_law_machine" : Str), ("_law_copy" : Str), ("_law_spoil" : Str), ("_law_pair" : Str), ("_law_classes" : Str), ("_law_paired" : Str), ("_law_pair_right" : Str), ("_law_right" : Str), ("_law_strange" : Str), ("_law_bent" : Str), ("law" : Str)] : List Str).getD i ""
  cn := fun i => (["Graph", "Refused", "Unbounded"] : List Str).getD i ""
  gn := fun i => (["MAX_NODES"] : List Str).getD i ""
  calls := [0, 1, 14, 13, 12, 15, 16, 19, 21, 20, 22, 23, 24, 25, 29, 31, 18, 26, 28, 27, 32, 17, 30, 33]
  mths := [(0, 5, "node_count"), (0, 6, "conjunction"), (0, 7, "disjunction"), (0, 8, "exclusive"), (0, 9, "choice"), (0, 10, "set_next"), (0, 11, "set_outputs"), (0, 4, "register_literal")]
  mks := [(0, 2)]
  flds := [(0, "inputs"), (0, "registers"), (0, "ands"), (0, "outputs"), (0, "known")]
  gls := [0]
  kw := fun i => (D i).kw
  exs := exL
  bases := exB
abbrev s_wall : Stmt := topS 0
theorem sc_wall : C8.scC d_wall.N d_wall.ps (defScope s_wall) = true := by decide +kernel
theorem ck_wall : d_wall.body.chk { ck with N := d_wall.N, sc := defScope s_wall, blk := false } (defBody s_wall) = true := by decide +kernel
abbrev s_negated : Stmt := topS 6
theorem sc_negated : C8.scC d_negated.N d_negated.ps (defScope s_negated) = true := by decide +kernel
theorem ck_negated : d_negated.body.chk { ck with N := d_negated.N, sc := defScope s_negated, blk := false } (defBody s_negated) = true := by decide +kernel
abbrev s_Graph_init : Stmt := inClass (topS 7) 0
theorem sc_Graph_init : C8.scC d_Graph_init.N d_Graph_init.ps (defScope s_Graph_init) = true := by decide +kernel
theorem ck_Graph_init : d_Graph_init.body.chk { ck with N := d_Graph_init.N, sc := defScope s_Graph_init, blk := false } (defBody s_Graph_init) = true := by decide +kernel
abbrev s_Graph_input_literal : Stmt := inClass (topS 7) 1
theorem sc_Graph_input_literal : C8.scC d_Graph_input_literal.N d_Graph_input_literal.ps (defScope s_Graph_input_literal) = true := by decide +kernel
theorem ck_Graph_input_literal : d_Graph_input_literal.body.chk { ck with N := d_Graph_input_literal.N, sc := defScope s_Graph_input_literal, blk := false } (defBody s_Graph_input_literal) = true := by decide +kernel
abbrev s_Graph_register_literal : Stmt := inClass (topS 7) 2
theorem sc_Graph_register_literal : C8.scC d_Graph_register_literal.N d_Graph_register_literal.ps (defScope s_Graph_register_literal) = true := by decide +kernel
theorem ck_Graph_register_literal : d_Graph_register_literal.body.chk { ck with N := d_Graph_register_literal.N, sc := defScope s_Graph_register_literal, blk := false } (defBody s_Graph_register_literal) = true := by decide +kernel
abbrev s_Graph_node_count : Stmt := inClass (topS 7) 3
theorem sc_Graph_node_count : C8.scC d_Graph_node_count.N d_Graph_node_count.ps (defScope s_Graph_node_count) = true := by decide +kernel
theorem ck_Graph_node_count : d_Graph_node_count.body.chk { ck with N := d_Graph_node_count.N, sc := defScope s_Graph_node_count, blk := false } (defBody s_Graph_node_count) = true := by decide +kernel
abbrev s_Graph_conjunction : Stmt := inClass (topS 7) 4
theorem sc_Graph_conjunction : C8.scC d_Graph_conjunction.N d_Graph_conjunction.ps (defScope s_Graph_conjunction) = true := by decide +kernel
theorem ck_Graph_conjunction : d_Graph_conjunction.body.chk { ck with N := d_Graph_conjunction.N, sc := defScope s_Graph_conjunction, blk := false } (defBody s_Graph_conjunction) = true := by decide +kernel
abbrev s_Graph_disjunction : Stmt := inClass (topS 7) 5
theorem sc_Graph_disjunction : C8.scC d_Graph_disjunction.N d_Graph_disjunction.ps (defScope s_Graph_disjunction) = true := by decide +kernel
theorem ck_Graph_disjunction : d_Graph_disjunction.body.chk { ck with N := d_Graph_disjunction.N, sc := defScope s_Graph_disjunction, blk := false } (defBody s_Graph_disjunction) = true := by decide +kernel
abbrev s_Graph_exclusive : Stmt := inClass (topS 7) 6
theorem sc_Graph_exclusive : C8.scC d_Graph_exclusive.N d_Graph_exclusive.ps (defScope s_Graph_exclusive) = true := by decide +kernel
theorem ck_Graph_exclusive : d_Graph_exclusive.body.chk { ck with N := d_Graph_exclusive.N, sc := defScope s_Graph_exclusive, blk := false } (defBody s_Graph_exclusive) = true := by decide +kernel
abbrev s_Graph_choice : Stmt := inClass (topS 7) 7
theorem sc_Graph_choice : C8.scC d_Graph_choice.N d_Graph_choice.ps (defScope s_Graph_choice) = true := by decide +kernel
theorem ck_Graph_choice : d_Graph_choice.body.chk { ck with N := d_Graph_choice.N, sc := defScope s_Graph_choice, blk := false } (defBody s_Graph_choice) = true := by decide +kernel
abbrev s_Graph_set_next : Stmt := inClass (topS 7) 8
theorem sc_Graph_set_next : C8.scC d_Graph_set_next.N d_Graph_set_next.ps (defScope s_Graph_set_next) = true := by decide +kernel
theorem ck_Graph_set_next : d_Graph_set_next.body.chk { ck with N := d_Graph_set_next.N, sc := defScope s_Graph_set_next, blk := false } (defBody s_Graph_set_next) = true := by decide +kernel
abbrev s_Graph_set_outputs : Stmt := inClass (topS 7) 9
theorem sc_Graph_set_outputs : C8.scC d_Graph_set_outputs.N d_Graph_set_outputs.ps (defScope s_Graph_set_outputs) = true := by decide +kernel
theorem ck_Graph_set_outputs : d_Graph_set_outputs.body.chk { ck with N := d_Graph_set_outputs.N, sc := defScope s_Graph_set_outputs, blk := false } (defBody s_Graph_set_outputs) = true := by decide +kernel
abbrev s_initial_state : Stmt := topS 8
theorem sc_initial_state : C8.scC d_initial_state.N d_initial_state.ps (defScope s_initial_state) = true := by decide +kernel
theorem ck_initial_state : d_initial_state.body.chk { ck with N := d_initial_state.N, sc := defScope s_initial_state, blk := false } (defBody s_initial_state) = true := by decide +kernel
abbrev s_is_integer : Stmt := topS 10
theorem sc_is_integer : C8.scC d_is_integer.N d_is_integer.ps (defScope s_is_integer) = true := by decide +kernel
theorem ck_is_integer : d_is_integer.body.chk { ck with N := d_is_integer.N, sc := defScope s_is_integer, blk := false } (defBody s_is_integer) = true := by decide +kernel
abbrev s_is_row : Stmt := topS 11
theorem sc_is_row : C8.scC d_is_row.N d_is_row.ps (defScope s_is_row) = true := by decide +kernel
theorem ck_is_row : d_is_row.body.chk { ck with N := d_is_row.N, sc := defScope s_is_row, blk := false } (defBody s_is_row) = true := by decide +kernel
abbrev s_are_integers : Stmt := topS 12
theorem sc_are_integers : C8.scC d_are_integers.N d_are_integers.ps (defScope s_are_integers) = true := by decide +kernel
theorem ck_are_integers : d_are_integers.body.chk { ck with N := d_are_integers.N, sc := defScope s_are_integers, blk := false } (defBody s_are_integers) = true := by decide +kernel
abbrev s_is_pair_right : Stmt := topS 14
theorem sc_is_pair_right : C8.scC d_is_pair_right.N d_is_pair_right.ps (defScope s_is_pair_right) = true := by decide +kernel
theorem ck_is_pair_right : d_is_pair_right.body.chk { ck with N := d_is_pair_right.N, sc := defScope s_is_pair_right, blk := false } (defBody s_is_pair_right) = true := by decide +kernel
abbrev s_are_classes : Stmt := topS 15
theorem sc_are_classes : C8.scC d_are_classes.N d_are_classes.ps (defScope s_are_classes) = true := by decide +kernel
theorem ck_are_classes : d_are_classes.body.chk { ck with N := d_are_classes.N, sc := defScope s_are_classes, blk := false } (defBody s_are_classes) = true := by decide +kernel
abbrev s_law_state : Stmt := topS 17
theorem sc_law_state : C8.scC d_law_state.N d_law_state.ps (defScope s_law_state) = true := by decide +kernel
theorem ck_law_state : d_law_state.body.chk { ck with N := d_law_state.N, sc := defScope s_law_state, blk := false } (defBody s_law_state) = true := by decide +kernel
abbrev s_law_take : Stmt := topS 18
theorem sc_law_take : C8.scC d_law_take.N d_law_take.ps (defScope s_law_take) = true := by decide +kernel
theorem ck_law_take : d_law_take.body.chk { ck with N := d_law_take.N, sc := defScope s_law_take, blk := false } (defBody s_law_take) = true := by decide +kernel
abbrev s_law_bits : Stmt := topS 19
theorem sc_law_bits : C8.scC d_law_bits.N d_law_bits.ps (defScope s_law_bits) = true := by decide +kernel
theorem ck_law_bits : d_law_bits.body.chk { ck with N := d_law_bits.N, sc := defScope s_law_bits, blk := false } (defBody s_law_bits) = true := by decide +kernel
abbrev s_law_operate : Stmt := topS 20
theorem sc_law_operate : C8.scC d_law_operate.N d_law_operate.ps (defScope s_law_operate) = true := by decide +kernel
theorem ck_law_operate : d_law_operate.body.chk { ck with N := d_law_operate.N, sc := defScope s_law_operate, blk := false } (defBody s_law_operate) = true := by decide +kernel
abbrev s_law_grow : Stmt := topS 21
theorem sc_law_grow : C8.scC d_law_grow.N d_law_grow.ps (defScope s_law_grow) = true := by decide +kernel
theorem ck_law_grow : d_law_grow.body.chk { ck with N := d_law_grow.N, sc := defScope s_law_grow, blk := false } (defBody s_law_grow) = true := by decide +kernel
abbrev s_law_machine : Stmt := topS 22
theorem sc_law_machine : C8.scC d_law_machine.N d_law_machine.ps (defScope s_law_machine) = true := by decide +kernel
theorem ck_law_machine : d_law_machine.body.chk { ck with N := d_law_machine.N, sc := defScope s_law_machine, blk := false } (defBody s_law_machine) = true := by decide +kernel
abbrev s_law_copy : Stmt := topS 23
theorem sc_law_copy : C8.scC d_law_copy.N d_law_copy.ps (defScope s_law_copy) = true := by decide +kernel
theorem ck_law_copy : d_law_copy.body.chk { ck with N := d_law_copy.N, sc := defScope s_law_copy, blk := false } (defBody s_law_copy) = true := by decide +kernel
abbrev s_law_spoil : Stmt := topS 24
theorem sc_law_spoil : C8.scC d_law_spoil.N d_law_spoil.ps (defScope s_law_spoil) = true := by decide +kernel
theorem ck_law_spoil : d_law_spoil.body.chk { ck with N := d_law_spoil.N, sc := defScope s_law_spoil, blk := false } (defBody s_law_spoil) = true := by decide +kernel
abbrev s_law_pair : Stmt := topS 25
theorem sc_law_pair : C8.scC d_law_pair.N d_law_pair.ps (defScope s_law_pair) = true := by decide +kernel
theorem ck_law_pair : d_law_pair.body.chk { ck with N := d_law_pair.N, sc := defScope s_law_pair, blk := false } (defBody s_law_pair) = true := by decide +kernel
abbrev s_law_classes : Stmt := topS 26
theorem sc_law_classes : C8.scC d_law_classes.N d_law_classes.ps (defScope s_law_classes) = true := by decide +kernel
theorem ck_law_classes : d_law_classes.body.chk { ck with N := d_law_classes.N, sc := defScope s_law_classes, blk := false } (defBody s_law_classes) = true := by decide +kernel
abbrev s_law_paired : Stmt := topS 27
theorem sc_law_paired : C8.scC d_law_paired.N d_law_paired.ps (defScope s_law_paired) = true := by decide +kernel
theorem ck_law_paired : d_law_paired.body.chk { ck with N := d_law_paired.N, sc := defScope s_law_paired, blk := false } (defBody s_law_paired) = true := by decide +kernel
abbrev s_law_pair_right : Stmt := topS 28
theorem sc_law_pair_right : C8.scC d_law_pair_right.N d_law_pair_right.ps (defScope s_law_pair_right) = true := by decide +kernel
theorem ck_law_pair_right : d_law_pair_right.body.chk { ck with N := d_law_pair_right.N, sc := defScope s_law_pair_right, blk := false } (defBody s_law_pair_right) = true := by decide +kernel
abbrev s_law_right : Stmt := topS 29
theorem sc_law_right : C8.scC d_law_right.N d_law_right.ps (defScope s_law_right) = true := by decide +kernel
theorem ck_law_right : d_law_right.body.chk { ck with N := d_law_right.N, sc := defScope s_law_right, blk := false } (defBody s_law_right) = true := by decide +kernel
abbrev s_law_strange : Stmt := topS 30
theorem sc_law_strange : C8.scC d_law_strange.N d_law_strange.ps (defScope s_law_strange) = true := by decide +kernel
theorem ck_law_strange : d_law_strange.body.chk { ck with N := d_law_strange.N, sc := defScope s_law_strange, blk := false } (defBody s_law_strange) = true := by decide +kernel
abbrev s_law_bent : Stmt := topS 31
theorem sc_law_bent : C8.scC d_law_bent.N d_law_bent.ps (defScope s_law_bent) = true := by decide +kernel
theorem ck_law_bent : d_law_bent.body.chk { ck with N := d_law_bent.N, sc := defScope s_law_bent, blk := false } (defBody s_law_bent) = true := by decide +kernel
abbrev s_law : Stmt := topS 32
theorem sc_law : C8.scC d_law.N d_law.ps (defScope s_law) = true := by decide +kernel
theorem ck_law : d_law.body.chk { ck with N := d_law.N, sc := defScope s_law, blk := false } (defBody s_law) = true := by decide +kernel

end LK

namespace LK
open L2 DI
open PySem.Spec
open PyProof.Rows hiding St
open PySem
local macro_rules | `(tactic| walk_at "stc") => `(tactic| first
  | ((with_reducible refine e_v ?_); refine k_v ?_)
  | with_reducible refine k_as ?_
  | with_reducible refine a_cons ?_
  | with_reducible refine r_nx ?_
  | with_reducible refine a_nil ?_
  | with_reducible refine e_c ?_
  | with_reducible refine r_asg ?_
  | ((with_reducible refine k_nm ?_); dsimp only [List.set_cons_zero, List.set_cons_succ])
  | with_reducible refine e_call ?_
  | with_reducible refine k_cl ?_
  | with_reducible refine e_ix ?_
  | with_reducible refine k_i1 ?_
  | with_reducible refine e_bin ?_
  | with_reducible refine k_b1 ?_
  | with_reducible refine e_bc ?_
  | with_reducible refine x_fld ?_
  | with_reducible refine r_exp ?_
  | with_reducible refine t_cmp ?_
  | with_reducible refine k_c1 ?_
  | with_reducible refine r_ite ?_)
local macro_rules | `(tactic| walk_at "st") => `(tactic| first
  | with_reducible refine r_one ?_
  | with_reducible refine r_sq ?_
  | with_reducible refine r_nil ?_
  | with_reducible refine r_asg ?_
  | with_reducible refine r_asl ?_
  | with_reducible refine r_exp ?_
  | with_reducible refine r_ret ?_
  | with_reducible refine r_ite ?_
  | with_reducible refine r_for ?_
  | with_reducible refine r_nx ?_
  | with_reducible refine r_pass ?_
  | with_reducible refine r_brk ?_
  | with_reducible refine r_cnt ?_
  | with_reducible refine r_retN ?_
  | ((with_reducible refine r_aug ?_); refine k_ag ?_)
  | ((with_reducible refine k_nm ?_); dsimp only [List.set_cons_zero, List.set_cons_succ])
  | ((with_reducible refine g_nm ?_); dsimp only [List.set_cons_zero, List.set_cons_succ])
  | ((with_reducible refine g_cons_nm ?_); dsimp only [List.set_cons_zero, List.set_cons_succ])
  | with_reducible refine g_cons ?_
  | with_reducible refine g_nil ?_
  | with_reducible refine g_sub ?_
  | with_reducible refine k_sub ?_
  | with_reducible refine k_tg ?_
  | ((with_reducible refine e_v ?_); refine k_v ?_)
  | with_reducible refine e_c ?_
  | with_reducible refine e_ty ?_
  | with_reducible refine e_bin ?_
  | with_reducible refine k_b1 ?_
  | with_reducible refine o_add ?_
  | with_reducible refine o_sub ?_
  | with_reducible refine o_and ?_
  | with_reducible refine o_or ?_
  | with_reducible refine o_xor ?_
  | with_reducible refine e_neg ?_
  | with_reducible refine k_neg ?_
  | with_reducible refine e_cmp ?_
  | with_reducible refine k_c1 ?_
  | with_reducible refine k_bl ?_
  | with_reducible refine c_eq ?_
  | with_reducible refine c_ne ?_
  | with_reducible refine c_lt ?_
  | with_reducible refine c_le ?_
  | with_reducible refine c_gt ?_
  | with_reducible refine c_ge ?_
  | with_reducible refine c_eqs ?_
  | with_reducible refine c_nes ?_
  | with_reducible refine c_eqb ?_
  | with_reducible refine c_neb ?_
  | with_reducible refine c_isB ?_
  | with_reducible refine c_isnB ?_
  | with_reducible refine c_isN ?_
  | with_reducible refine c_isnN ?_
  | with_reducible refine e_and ?_
  | with_reducible refine e_or ?_
  | with_reducible refine e_not ?_
  | with_reducible refine e_ite ?_
  | with_reducible refine e_tup ?_
  | with_reducible refine e_lst ?_
  | with_reducible refine e_ix ?_
  | with_reducible refine k_i1 ?_
  | with_reducible refine e_call ?_
  | with_reducible refine k_cl ?_
  | with_reducible refine e_bc ?_
  | with_reducible refine e_bm ?_
  | with_reducible refine e_lc ?_
  | with_reducible refine x_fld ?_
  | with_reducible refine r_fld ?_
  | with_reducible refine k_fs ?_
  | with_reducible refine e_meth ?_
  | with_reducible refine k_mc ?_
  | with_reducible refine e_mk ?_
  | with_reducible refine r_par ?_
  | ((with_reducible refine k_pr ?_); dsimp only [List.set_cons_zero, List.set_cons_succ])
  | with_reducible refine r_par3 ?_
  | ((with_reducible refine k_pr3 ?_); dsimp only [List.set_cons_zero, List.set_cons_succ])
  | (with_reducible refine e_gI (by assumption) ?_)
  | with_reducible refine e_d0 ?_
  | with_reducible refine e_dT0 ?_
  | with_reducible refine a_nil ?_
  | with_reducible refine a_cons ?_
  | with_reducible refine k_as ?_
  | with_reducible refine k_cn ?_
  | with_reducible refine f_int ?_
  | with_reducible refine f_intb ?_
  | with_reducible refine f_abs ?_
  | with_reducible refine f_max ?_
  | with_reducible refine f_min ?_
  | with_reducible refine t_tr ?_
  | with_reducible refine k_trb ?_
  | with_reducible refine k_tri ?_
  | with_reducible refine k_trn ?_
  | with_reducible refine t_cmp ?_
  | with_reducible refine t_and ?_
  | with_reducible refine t_or ?_
  | with_reducible refine t_not ?_
  | with_reducible refine kif_nt ?_
  | with_reducible refine kif_nf ?_
  | with_reducible refine kto_t ?_
  | with_reducible refine kto_f ?_
  | with_reducible refine kto_nt ?_
  | with_reducible refine kto_nf ?_
  | with_reducible refine kta_t ?_
  | with_reducible refine kta_f ?_
  | with_reducible refine kta_nt ?_
  | with_reducible refine kta_nf ?_
  | with_reducible refine ktn_t ?_
  | with_reducible refine ktn_f ?_
  | with_reducible refine kan_t ?_
  | with_reducible refine kan_f ?_
  | with_reducible refine kor_t ?_
  | with_reducible refine kor_f ?_
  | with_reducible refine kix_t ?_
  | with_reducible refine kix_f ?_
  | with_reducible refine k_tn ?_
  | with_reducible refine k_aug_add ?_
  | with_reducible refine k_aug_sub ?_
  | with_reducible refine q_rng1 ?_
  | with_reducible refine q_lst ?_
  | with_reducible refine q_tup ?_
  | with_reducible refine kif_t ?_
  | with_reducible refine kif_f ?_)
local macro_rules | `(tactic| walk_at "go") => `(tactic| repeat first | walk_at "stc" | walk_at "st")
local macro_rules | `(tactic| walk_at "st2") => `(tactic| first
  | walk_at "st"
  | with_reducible refine e_slc ?_
  | with_reducible refine k_sa ?_
  | with_reducible refine k_sb ?_
  | with_reducible refine p_no ?_
  | with_reducible refine p_so ?_
  | with_reducible refine k_pa ?_
  | with_reducible refine q_enm ?_
  | with_reducible refine q_zip ?_
  | with_reducible refine q_rvs ?_
  | with_reducible refine e_chn ?_
  | with_reducible refine t_chn ?_
  | with_reducible refine k_h1 ?_
  | with_reducible refine k_h2 ?_)
local macro_rules | `(tactic| walk_at "g2") => `(tactic| repeat first | walk_at "stc" | walk_at "st2")
local macro_rules | `(tactic| walk_at "st3") => `(tactic| first
  | with_reducible refine c_eqT ?_
  | with_reducible refine c_neT ?_
  | walk_at "st2"
  | with_reducible refine c_inS ?_
  | with_reducible refine c_niS ?_
  | with_reducible refine e_callk ?_
  | with_reducible refine k_k1 ?_
  | ((with_reducible refine k_k2 rfl ?_); dsimp only [List.cons_append, List.nil_append])
  | with_reducible refine e_bits ?_
  | with_reducible refine e_rev ?_
  | with_reducible refine k_bits ?_
  | with_reducible refine q_rng3 ?_
  | with_reducible refine q_txt ?_
  | with_reducible refine q_zipS ?_
  | with_reducible refine k_zs ?_
  | with_reducible refine k_tx ?_
  | with_reducible refine k_mS rfl ?_)
local macro_rules | `(tactic| walk_at "g3") => `(tactic| repeat first | walk_at "stc" | walk_at "st3")
local macro_rules | `(tactic| walk_at "st4") => `(tactic| first
  | with_reducible refine c_isTT ?_
  | with_reducible refine c_isFF ?_
  | with_reducible refine c_isnTT ?_
  | with_reducible refine c_isnFF ?_
  | with_reducible refine c_eqR ?_
  | with_reducible refine c_neR ?_
  | with_reducible refine c_eqsR ?_
  | with_reducible refine c_nesR ?_
  | walk_at "st3"
  | with_reducible refine q_rng2a ?_
  | with_reducible refine k_r2a ?_
  | with_reducible refine f_int0 ?_
  | with_reducible refine f_int1 ?_)
local macro_rules | `(tactic| walk_at "g4") => `(tactic| repeat first | walk_at "stc" | walk_at "st4")
local macro_rules | `(tactic| walk_at "st5") => `(tactic| first
  | walk_at "st4"
  | with_reducible refine e_chn3 ?_
  | with_reducible refine t_chn3 ?_
  | with_reducible refine k_g1 ?_
  | with_reducible refine k_g2 ?_
  | with_reducible refine e_dct ?_
  | with_reducible refine k_ps0 ?_
  | with_reducible refine k_ps1 ?_
  | with_reducible refine k_pk ?_
  | with_reducible refine k_pv ?_
  | with_reducible refine e_dget ?_
  | with_reducible refine k_ge2 ?_
  | with_reducible refine r_ddel ?_
  | with_reducible refine k_dl1 ?_
  | with_reducible refine r_rai ?_
  | with_reducible refine e_lrg1 ?_
  | with_reducible refine e_lenO ?_
  | with_reducible refine q_rvT ?_
  | with_reducible refine e_mxd ?_
  | with_reducible refine k_mx ?_
  | with_reducible refine q_enmT ?_)
local macro_rules | `(tactic| walk_at "g5") => `(tactic| repeat first | walk_at "stc" | walk_at "st5")
/-! ### drawing: _law_state, _law_take, _law_bits -/
theorem take_spec {v : Ev} {n : Nat} {w : Wd} {s c : Addr} {m : Int} {Q : VK} {E : XK} (g : Gen w s c) (h0 : 0 < m) (h1 : m < 1000000)
    (q : ∀ w' r, Ex [s, c] w w' → Gen w' s c → 0 ≤ r → r < m → Q (.int r) w'.H) : spOf v D (n + 1) i_law_take [.ref s, .int m] w.H Q E := by
  obtain ⟨⟨i, cs, os, oc, hi, hl, hp⟩, ne⟩ := g
  have hlog : m.natAbs.log2 < 9000 := by
    have : m.natAbs < 2 ^ 9000 := by
      have : m.natAbs < 2 ^ 20 := by omega
      exact Nat.lt_of_lt_of_le this (Nat.pow_le_pow_right (by decide) (by decide))
    rcases Nat.eq_zero_or_pos m.natAbs with e | e
    · rw [e]; decide
    · exact (Nat.log2_lt (by omega)).mpr this
  refine in_law_take ?_
  unfold b_law_take
  walk_at "go"
  refine i_O os.h (by decide) rfl ?_
  walk_at "go"
  refine i_O os.h (by decide) rfl ?_
  walk_at "go"
  refine f_lenO oc.h ?_
  walk_at "go"
  rw [List.length_map]
  refine o_mod (by omega) ?_
  walk_at "go"
  have ha : 0 ≤ i % (cs.length : Int) := Int.emod_nonneg _ (by omega)
  have hb : i % (cs.length : Int) < cs.length := Int.emod_lt_of_pos _ (by omega)
  refine i_OG oc.h ha hb ?_
  walk_at "go"
  have hx : 0 ≤ cs.getD (i % (cs.length : Int)).toNat 0 := hp _ (by
    rw [List.getD_eq_getElem?_getD, List.getElem?_eq_getElem (by omega)]
    exact List.getElem_mem _)
  generalize cs.getD (i % (cs.length : Int)).toNat 0 = x at hx
  refine kif_d (fun hc => ?_) (fun hc => ?_)
  · walk_at "go"
    refine o_fdv h0 hlog ?_
    walk_at "go"
    refine k_set_lst (j := (i % (cs.length : Int)).toNat) oc (by
      unfold ixN
      rw [if_pos ha, List.length_map, if_pos hb]) fun w' e o' => ?_
    have os' := os.ex e (by simp [ne])
    walk_at "go"
    refine o_mod h0 ?_
    refine q w' _ (e.more (by simp) ?_) ⟨⟨i, cs.set (i % (cs.length : Int)).toNat (x / m), os', by rw [List.map_set]; exact o', hi, by rw [List.length_set]; exact hl, ?_⟩, ne⟩ (Int.emod_nonneg _ (by omega)) (Int.emod_lt_of_pos _ h0)
    · exact Gen.op ⟨⟨i, cs, os, oc, hi, hl, hp⟩, ne⟩
    · intro y hy
      rcases List.mem_or_eq_of_mem_set hy with hy | hy
      · exact hp y hy
      · rw [hy]; exact Int.ediv_nonneg hx (by omega)
  · walk_at "go"
    refine i_O os.h (by decide) rfl ?_
    walk_at "go"
    refine k_set_lst (j := 0) os rfl fun w' e o' => ?_
    have oc' := oc.ex e (by simp [Ne.symm ne])
    walk_at "go"
    refine o_mul (.inr ⟨by decide, by decide⟩) ?_
    walk_at "go"
    refine i_O o'.h (by decide) rfl ?_
    walk_at "go"
    refine o_mul (.inr ⟨by decide, by decide⟩) ?_
    walk_at "go"
    refine o_mod (by decide) ?_
    walk_at "go"
    refine o_mul (.inr ⟨by decide, by decide⟩) ?_
    walk_at "go"
    refine i_O o'.h (by decide) rfl ?_
    walk_at "go"
    refine o_mul (.inr ⟨by decide, by decide⟩) ?_
    walk_at "go"
    refine o_mod (by decide) ?_
    walk_at "go"
    refine o_fdv (by decide) (by decide) ?_
    walk_at "go"
    refine o_mod h0 ?_
    refine q w' _ (e.more (by simp) ?_) ⟨⟨i + 1, cs, o', oc', by omega, hl, hp⟩, ne⟩ (Int.emod_nonneg _ (by omega)) (Int.emod_lt_of_pos _ h0)
    exact Gen.op ⟨⟨i, cs, os, oc, hi, hl, hp⟩, ne⟩
/-- the drawing begins -/
theorem state_spec {v : Ev} {n : Nat} {w : Wd} {a : Addr} {ns : List Int} {Q : VK} {E : XK} (hS : SqL v.K w.H a (ns.map V.int)) (hn : ns.length ≤ 63)
    (q : ∀ w' s c, Ex [] w w' → Gen w' s c → Q (.ref s) w'.H) : spOf v D (n + 1) i_law_state [.ref a] w.H Q E := by
  refine in_law_state ?_
  unfold b_law_state
  walk_at "go"
  refine e_sl ?_
  refine e_v ?_; refine k_v ?_
  refine ⟨63, rfl, ?_⟩
  obtain ⟨ms, em, hms⟩ := cutV_ints (ns := ns) (lo := none) (hi := some 63)
  refine sl_L hS ?_
  rw [em]
  refine new_op fun w1 p e1 hp1 o1 => ?_
  refine k_ls o1.h ?_
  refine k_lc_lst (xs := ms.map V.int) fun w2 d e2 hd2 o2 => ⟨fun i w' => Ex [] w w' ∧ w'.H p = some (.lst (ms.map V.int)) ∧ w.H d = none ∧ ∃ cs : List Int, Op w' d (.lst (cs.map V.int)) ∧ cs.length = i ∧ ∀ x ∈ cs, 0 ≤ x, ?_, ?_, ?_, ?_⟩
  · exact ⟨e1.t0 e2, (o1.ex e2 (by simp)).h, e1.free hd2, [], o2, rfl, by simp⟩
  · exact fun i w' h => sqL h.2.1
  · rintro i x w3 hx ⟨e3, h3, hd, cs, o3, hl, hp⟩
    rw [List.getElem?_map] at hx
    obtain ⟨k, hk, rfl⟩ := Option.map_eq_some_iff.mp hx
    have hi : i < ms.length := by
      rcases Nat.lt_or_ge i ms.length with h | h
      · exact h
      · rw [List.getElem?_eq_none h] at hk; cases hk
    refine g_nm ?_
    refine k_lb0 rfl ?_
    walk_at "go"
    refine k_ap (acc := cs.map V.int) o3 (by rw [List.length_map, sizeLine_eq]; omega) fun w4 e4 o4 => ⟨e3.tf e4 hd, ?_, hd, cs ++ [if k < 0 then -k else k], by simpa using o4, by simp [hl], ?_⟩
    · exact e4.kp _ _ h3 (by simp only [List.mem_singleton]; exact o1.ne hd2)
    · intro y hy
      rcases List.mem_append.mp hy with hy | hy
      · exact hp y hy
      · simp at hy; subst hy; split <;> omega
  · rintro w3 ⟨e3, h3, hd, cs, o3, hl, hp⟩
    walk_at "go"
    refine f_lenO o3.h ?_
    walk_at "go"
    refine kif_d (fun hc => ?_) (fun hc => ?_)
    · walk_at "go"
      refine k_lstO (by simp) fun w4 c e4 hc4 o4 => ?_
      walk_at "go"
      refine k_lstO (by simp) fun w5 s e5 hs5 o5 => ?_
      exact q w5 s c ((e3.t0 e4).t0 e5) ⟨⟨0, [0], o5, o4.ex e5 (by simp), by decide, by decide, by simp⟩, Ne.symm (o4.ne hs5)⟩
    · walk_at "go"
      refine k_lstO (by simp) fun w5 s e5 hs5 o5 => ?_
      rw [List.length_map] at hc
      exact q w5 s d (e3.t0 e5) ⟨⟨0, cs, o5, o3.ex e5 (by simp), by decide, by omega, hp⟩, Ne.symm (o3.ne hs5)⟩
/-- drawn bits -/
theorem bits_spec {v : Ev} {n : Nat} {w : Wd} {s c : Addr} {m : Int} {Q : VK} {E : XK} (g : Gen w s c) (h0 : 0 ≤ m) (h1 : m < 1000000)
    (q : ∀ w' x (bs : List Int), Ex [s, c] w w' → Gen w' s c → bs.length = m.toNat → (∀ b ∈ bs, b = 0 ∨ b = 1) → Dv w' x (.list (bs.map .int)) → Q x w'.H) : spOf v D (n + 2) i_law_bits [.ref s, .int m] w.H Q E := by
  refine in_law_bits ?_
  unfold b_law_bits
  walk_at "go"
  refine k_r1 (by omega) (by omega) ?_
  refine k_lc_rng fun w1 d e1 hd1 o1 => ⟨fun i w' => Ex [s, c] w w' ∧ Gen w' s c ∧ ∃ bs : List Int, Op w' d (.lst (bs.map V.int)) ∧ bs.length = i ∧ ∀ b ∈ bs, b = 0 ∨ b = 1, ?_, ?_, ?_⟩
  · exact ⟨e1.gen g, g.ex0 e1, [], o1, rfl, by simp⟩
  · rintro i w2 hi ⟨e2, g2, bs, o2, hl, hb⟩
    refine g_nm ?_
    refine k_lb0 rfl ?_
    walk_at "go"
    refine take_spec g2 (by decide) (by decide) fun w3 r e3 g3 h0 h1 => ?_
    have o3 := o2.ex e3 (by simp only [List.mem_cons, List.not_mem_nil, or_false, not_or]; exact ⟨Ne.symm (g.fs hd1), Ne.symm (g.fc hd1)⟩)
    refine k_ap (acc := bs.map V.int) o3 (by rw [List.length_map, sizeLine_eq]; omega) fun w4 e4 o4 => ⟨(e2.tt e3).tf e4 hd1, g3.ex e4 (by simpa using g.fs hd1) (by simpa using g.fc hd1), bs ++ [r], by simpa using o4, by simp [hl], ?_⟩
    intro y hy
    rcases List.mem_append.mp hy with hy | hy
    · exact hb y hy
    · simp at hy; subst hy; omega
  · rintro w2 ⟨e2, g2, bs, o2, hl, hb⟩
    obtain ⟨w3, eh, e3, d3⟩ := seal_lst o2 (Dvs.ints bs)
    rw [← eh]
    exact q w3 _ bs (e2.tf e3 hd1) (g2.ex e3 (by simpa using g.fs hd1) (by simpa using g.fc hd1)) hl hb d3
/-! ### graphs -/
theorem nat_xor1 (n : Nat) : n ^^^ 1 = if n % 2 = 0 then n + 1 else n - 1 := by
  have h1 : (n ^^^ 1) / 2 = n / 2 := by rw [Nat.xor_div_two]; simp
  have h2 := @Nat.xor_mod_two_eq_one n 1
  split <;> omega
def neg (l : Int) : Int := if l % 2 = 0 then l + 1 else l - 1
theorem xor1 {l : Int} (h : 0 ≤ l) : Builtin.bitXor l 1 = neg l := by
  rw [Bits.bitXor_pp h (by decide)]
  have e : (1 : Int).toNat = 1 := rfl
  rw [e, nat_xor1]
  unfold neg
  split <;> split <;> omega
theorem negated_spec {v : Ev} {n : Nat} {H : Hp} {l : Int} {Q : VK} {E : XK} (h : 0 ≤ l) (q : Q (.int (neg l)) H) : spOf v D (n + 1) i_negated [.int l] H Q E := by
  refine in_negated ?_
  unfold b_negated
  walk_at "go"
  rw [xor1 h]
  exact q
/-- the dict of the known pairs -/
def kvsFrom (f : Int) : Nat → List (Int × Int) → List (List Key × V)
  | _, [] => []
  | k, p :: r => (pk p, .int (2 * (f + k))) :: kvsFrom f (k + 1) r
theorem kvsFrom_len (f : Int) : ∀ (l : List (Int × Int)) (k : Nat), (kvsFrom f k l).length = l.length
  | [], _ => rfl
  | p :: r, k => by simp [kvsFrom, kvsFrom_len f r (k + 1)]
theorem pk_inj {p q : Int × Int} (h : pk p = pk q) : p = q := by
  obtain ⟨a, b⟩ := p
  obtain ⟨c, d⟩ := q
  simp at h
  simp [h]
theorem valV_from (f : Int) (p : Int × Int) : ∀ (l : List (Int × Int)) (k : Nat), valV (kvsFrom f k l) (pk p) = if p ∈ l then some (V.int (2 * (f + ((k + l.idxOf p : Nat) : Int)))) else none
  | [], _ => by simp [kvsFrom, valV_nil]
  | x :: r, k => by
    unfold kvsFrom
    by_cases e : x = p
    · subst e
      rw [valV_pos rfl]
      simp
    · rw [valV_neg (fun h => e (pk_inj h)), valV_from f p r (k + 1)]
      have hx : (p = x) = False := by simpa using Ne.symm e
      simp only [List.mem_cons, hx, false_or]
      split
      · rw [List.idxOf_cons, show (x == p) = false from by simpa using e]
        simp only [cond_false]
        congr 4
        omega
      · rfl
theorem kvsFrom_snoc (f : Int) (p : Int × Int) : ∀ (l : List (Int × Int)) (k : Nat), kvsFrom f k (l ++ [p]) = kvsFrom f k l ++ [(pk p, V.int (2 * (f + ((k + l.length : Nat) : Int))))]
  | [], k => by simp [kvsFrom]
  | x :: r, k => by
    rw [List.cons_append]
    unfold kvsFrom
    rw [kvsFrom_snoc f p r (k + 1)]
    simp only [List.cons_append, List.length_cons]
    rw [show k + 1 + r.length = k + (r.length + 1) by omega]
structure GA where
  g : Addr
  dx : Addr
  rg : Addr
  an : Addr
  ou : Addr
  kn : Addr
def GA.has (A : GA) (b : Addr) : Prop := b = A.g ∨ b = A.rg ∨ b = A.an ∨ b = A.ou ∨ b = A.kn
abbrev gfs (A : GA) (inp : Int) : List (Str × V) := [("inputs", .int inp), ("registers", .ref A.rg), ("ands", .ref A.an), ("outputs", .ref A.ou), ("known", .ref A.kn)]
/-- a graph stands -/
structure Gr (C : Addr) (w : Wd) (A : GA) (inp : Int) (regs ands : List (Int × Int)) (ods : List Int) : Prop where
  og : Op w A.g (.ins C A.dx (gfs A inp))
  rg : ∃ vs, Op w A.rg (.lst vs) ∧ Dvs w vs (regs.map dp)
  an : ∃ vs, Op w A.an (.lst vs) ∧ Dvs w vs (ands.map dp)
  ou : Op w A.ou (.lst (ods.map V.int))
  kn : Op w A.kn (.dT (kvsFrom (1 + inp + regs.length) 0 ands))
  ne1 : A.an ≠ A.rg
  ne2 : A.an ≠ A.ou
  ne3 : A.rg ≠ A.ou
section
variable {C : Addr} {w w' : Wd} {A : GA} {inp : Int} {regs ands : List (Int × Int)} {ods : List Int} {T : List Addr}
theorem Gr.ex (e : Ex T w w') (G : Gr C w A inp regs ands ods) (h : ∀ b ∈ T, ¬ A.has b) : Gr C w' A inp regs ands ods := by
  obtain ⟨rv, o1, d1⟩ := G.rg
  obtain ⟨av, o2, d2⟩ := G.an
  exact ⟨G.og.ex e fun z => h _ z (.inl rfl), ⟨rv, o1.ex e fun z => h _ z (.inr (.inl rfl)), d1.ex e⟩, ⟨av, o2.ex e fun z => h _ z (.inr (.inr (.inl rfl))), d2.ex e⟩,
    G.ou.ex e fun z => h _ z (.inr (.inr (.inr (.inl rfl)))), G.kn.ex e fun z => h _ z (.inr (.inr (.inr (.inr rfl)))), G.ne1, G.ne2, G.ne3⟩
theorem Gr.ex0 (e : Ex [] w w') (G : Gr C w A inp regs ands ods) : Gr C w' A inp regs ands ods := G.ex e (by simp)
theorem Gr.fresh {b : Addr} (G : Gr C w A inp regs ands ods) (h : w.H b = none) : ¬ A.has b := by
  obtain ⟨rv, o1, d1⟩ := G.rg
  obtain ⟨av, o2, d2⟩ := G.an
  rintro (e | e | e | e | e) <;> subst e
  · exact G.og.ne h rfl
  · exact o1.ne h rfl
  · exact o2.ne h rfl
  · exact G.ou.ne h rfl
  · exact G.kn.ne h rfl
theorem Gr.opn (G : Gr C w A inp regs ands ods) : ∀ b ∈ [A.an, A.kn], ¬ w.S b := by
  obtain ⟨av, o2, d2⟩ := G.an
  intro b hb
  simp only [List.mem_cons, List.not_mem_nil, or_false] at hb
  rcases hb with rfl | rfl
  · exact o2.n
  · exact G.kn.n
theorem GA.no {b : Addr} (h : ¬ A.has b) : b ∉ [A.an, A.kn] := by
  simp only [List.mem_cons, List.not_mem_nil, or_false, not_or]
  exact ⟨fun e => h (.inr (.inr (.inl e))), fun e => h (.inr (.inr (.inr (.inr e))))⟩
end
/-- the conjunction: the literal, the pairs behind it -/
def conj (f : Int) (ands : List (Int × Int)) (a b : Int) : Int × List (Int × Int) :=
  let p := (min a b, max a b)
  if p.1 = 0 then (0, ands) else if p.1 = 1 then (p.2, ands) else if p.1 = p.2 then (p.1, ands) else if neg p.1 = p.2 then (0, ands) else
  if p ∈ ands then (2 * (f + (ands.idxOf p : Nat)), ands) else (2 * (f + ands.length), ands ++ [p])
theorem count_spec {v : Ev} {n : Nat} {w : Wd} {A : GA} {inp : Int} {regs ands : List (Int × Int)} {ods : List Int} {Q : VK} {E : XK} (G : Gr (v.cls c_Graph) w A inp regs ands ods)
    (q : Q (.int (1 + inp + regs.length + ands.length)) w.H) : spOf v D (n + 1) i_Graph_node_count [.ref A.g] w.H Q E := by
  obtain ⟨rv, o1, d1⟩ := G.rg
  obtain ⟨av, o2, d2⟩ := G.an
  refine in_Graph_node_count ?_
  unfold b_Graph_node_count
  walk_at "go"
  refine k_fl G.og (by rfl) ?_
  walk_at "go"
  refine k_fl G.og (by rfl) ?_
  walk_at "go"
  refine f_lenO o1.h ?_
  walk_at "go"
  refine k_fl G.og (by rfl) ?_
  walk_at "go"
  refine f_lenO o2.h ?_
  walk_at "go"
  rw [d1.length, d2.length, List.length_map, List.length_map]
  exact q
theorem conj_spec {v : Ev} {n : Nat} {w : Wd} {A : GA} {inp : Int} {regs ands : List (Int × Int)} {ods : List Int} {a b : Int} {Q : VK} {E : XK} (hg : v.gv g_max_nodes = .int 4000) (G : Gr (v.cls c_Graph) w A inp regs ands ods) (ha : 0 ≤ a) (hb : 0 ≤ b)
    (hi : 0 ≤ inp) (hm : 1 + inp + regs.length + ands.length < 4000)
    (q : ∀ w', Ex [A.an, A.kn] w w' → Gr (v.cls c_Graph) w' A inp regs (conj (1 + inp + regs.length) ands a b).2 ods → Q (.int (conj (1 + inp + regs.length) ands a b).1) w'.H) :
    spOf v D (n + 2) i_Graph_conjunction [.ref A.g, .int a, .int b] w.H Q E := by
  refine in_Graph_conjunction ?_
  unfold b_Graph_conjunction
  walk_at "go"
  generalize hN : Nx _ _ _ _ _ _ _ = N
  have rest : ∀ l h : Int, l = min a b → h = max a b → N [some (.ref A.g), some (.int l), some (.int h), none] w.H := by
    intro l h el eh
    subst hN
    unfold conj at q
    simp only [← el, ← eh] at q
    have hl : 0 ≤ l := by omega
    have hh : 0 ≤ h := by omega
    clear el eh
    have stay : ∀ r : Int, (∀ w', Ex [A.an, A.kn] w w' → Gr (v.cls c_Graph) w' A inp regs ands ods → Q (.int r) w'.H) → Q (.int r) w.H := fun r k => k w (Ex.refl w |>.more (by simp) G.opn) G
    walk_at "go"
    refine kif_d (fun h0 => ?_) fun h0 => ?_
    · walk_at "go"
      rw [if_pos h0] at q
      exact stay _ q
    rw [if_neg h0] at q
    walk_at "go"
    refine kif_d (fun h1 => ?_) fun h1 => ?_
    · walk_at "go"
      rw [if_pos h1] at q
      exact stay _ q
    rw [if_neg h1] at q
    walk_at "go"
    refine kif_d (fun h2 => ?_) fun h2 => ?_
    · walk_at "go"
      rw [if_pos h2] at q
      exact stay _ q
    rw [if_neg h2] at q
    walk_at "go"
    refine negated_spec hl ?_
    walk_at "go"
    refine kif_d (fun h3 => ?_) fun h3 => ?_
    · walk_at "go"
      rw [if_pos h3] at q
      exact stay _ q
    rw [if_neg h3] at q
    walk_at "go"
    refine k_tup (by simp) (.cons (.int _) (.cons (.int _) .nil)) fun w1 x1 e1 d1 => ?_
    have G1 := G.ex0 e1
    walk_at "go"
    refine k_fl G1.og (by rfl) ?_
    refine c_in_pair d1 G1.kn.h ?_
    rw [valV_from]
    refine kif_b (fun h4 => ?_) fun h4 => ?_
    · have h4 : (l, h) ∈ ands := by
        by_cases z : (l, h) ∈ ands
        · exact z
        · rw [if_neg z] at h4; cases h4
      rw [if_pos h4] at q
      walk_at "go"
      refine k_fl G1.og (by rfl) ?_
      walk_at "go"
      refine k_tup (by simp) (.cons (.int _) (.cons (.int _) .nil)) fun w2 x2 e2 d2 => ?_
      have G2 := G1.ex0 e2
      refine i_pair d2 G2.kn.h (by rw [valV_from, if_pos h4]) ?_
      walk_at "go"
      rw [Nat.zero_add]
      exact q w2 ((e1.t0 e2).more (by simp) G.opn) G2
    · have h4 : (l, h) ∉ ands := fun z => by rw [if_pos z] at h4; cases h4
      rw [if_neg h4] at q
      walk_at "go"
      refine k_me G1.og (by rfl) ?_
      walk_at "go"
      refine count_spec G1 ?_
      walk_at "go"
      refine kif_d (fun h5 => by omega) fun h5 => ?_
      walk_at "go"
      refine k_me G1.og (by rfl) ?_
      walk_at "go"
      refine count_spec G1 ?_
      walk_at "go"
      refine o_mul (.inl ⟨by decide, by decide⟩) ?_
      walk_at "go"
      refine k_fl G1.og (by rfl) ?_
      obtain ⟨av, oa, da⟩ := G1.an
      refine k_m1 oa.h rfl ?_
      walk_at "go"
      refine k_tup (by simp) (.cons (.int _) (.cons (.int _) .nil)) fun w2 x2 e2 d2 => ?_
      walk_at "go"
      refine m_app (oa.ex e2 (by simp)) (by rw [da.length, List.length_map, sizeLine_eq]; omega) fun w3 e3 o3 => ?_
      have kne : A.kn ≠ A.an := fun z => by have h1 := G1.kn.h; rw [z, oa.h] at h1; cases h1
      have gne : A.g ≠ A.an := fun z => by have h1 := G1.og.h; rw [z, oa.h] at h1; cases h1
      have gnk : A.g ≠ A.kn := fun z => by have h1 := G1.og.h; rw [z, G1.kn.h] at h1; cases h1
      obtain ⟨rv, org, drg⟩ := G1.rg
      have rnk : A.rg ≠ A.kn := fun z => by have h1 := org.h; rw [z, G1.kn.h] at h1; cases h1
      have onk : A.ou ≠ A.kn := fun z => by have h1 := G1.ou.h; rw [z, G1.kn.h] at h1; cases h1
      have og3 := (G1.og.ex e2 (by simp)).set_ne e3 gne
      have kn3 := (G1.kn.ex e2 (by simp)).set_ne e3 kne
      have rg3 := (org.ex e2 (by simp)).set_ne e3 (Ne.symm G.ne1)
      have ou3 := (G1.ou.ex e2 (by simp)).set_ne e3 (Ne.symm G.ne2)
      walk_at "go"
      refine k_fl og3 (by rfl) ?_
      walk_at "go"
      refine k_tup (by simp) (.cons (.int _) (.cons (.int _) .nil)) fun w4 x4 e4 d4 => ?_
      refine k_set_pair d4 (kn3.ex e4 (by simp)) (by rw [kvsFrom_len, sizeLine_eq]; omega) fun w5 e5 o5 => ?_
      walk_at "go"
      have eT : Ex [A.an, A.kn] w w5 := by
        refine Ex.trans (Ex.trans ((e1.t0 e2).more (by simp) G.opn) (e3.t0 e4) (by simp)) e5 (by simp)
      refine q w5 eT ⟨(og3.ex e4 (by simp)).set_ne e5 gnk, ⟨rv, (rg3.ex e4 (by simp)).set_ne e5 rnk, (((drg.ex e2).ex e3).ex e4).ex e5⟩, ⟨av ++ [x2], (o3.ex e4 (by simp)).set_ne e5 (Ne.symm kne), ?_⟩, (ou3.ex e4 (by simp)).set_ne e5 onk, ?_, G.ne1, G.ne2, G.ne3⟩
      · rw [List.map_append]
        exact ((((da.ex e2).ex e3).ex e4).ex e5).app (.cons (((d2.ex e3).ex e4).ex e5) .nil)
      · rw [kvsFrom_snoc]
        have : putK (kvsFrom (1 + inp + regs.length) 0 ands) (pk (l, h)) (.int (2 * (1 + inp + regs.length + ands.length))) = kvsFrom (1 + inp + regs.length) 0 ands ++ [(pk (l, h), V.int (2 * (1 + inp + regs.length + ((0 + ands.length : Nat) : Int))))] := by
          unfold putK
          rw [valV_any, valV_from, if_neg h4]
          simp
        rw [← this]
        exact o5
  refine kif_d (fun h0 => ?_) fun h0 => ?_
  · walk_at "go"
    exact rest b a (by omega) (by omega)
  · walk_at "go"
    exact rest a b (by omega) (by omega)
/-! ### what the nodes of a graph are worth -/
def lv (vs : List Int) (l : Int) : Int := if l % 2 = 1 then 1 - vs.getD (l / 2).toNat 0 else vs.getD (l / 2).toNat 0
def vals (base : List Int) (ands : List (Int × Int)) : List Int := ands.foldl (fun vs p => vs ++ [lv vs p.1 * lv vs p.2]) base
def Bs (vs : List Int) : Prop := ∀ x ∈ vs, x = 0 ∨ x = 1
theorem Bs.get {vs : List Int} (h : Bs vs) (k : Nat) : vs.getD k 0 = 0 ∨ vs.getD k 0 = 1 := by
  rw [List.getD_eq_getElem?_getD]
  cases e : vs[k]? with
  | none => exact .inl rfl
  | some x => exact h x (List.mem_of_getElem? e)
theorem Bs.lv {vs : List Int} (h : Bs vs) (l : Int) : lv vs l = 0 ∨ lv vs l = 1 := by
  unfold LK.lv
  rcases h.get (l / 2).toNat with e | e <;> rw [e] <;> split <;> simp
theorem vals_snoc (base : List Int) (ands : List (Int × Int)) (p : Int × Int) : vals base (ands ++ [p]) = vals base ands ++ [lv (vals base ands) p.1 * lv (vals base ands) p.2] := by
  unfold vals; rw [List.foldl_append]; rfl
theorem vals_ext (base : List Int) (ands t : List (Int × Int)) : ∃ u, vals base (ands ++ t) = vals base ands ++ u ∧ u.length = t.length := by
  induction t generalizing ands with
  | nil => exact ⟨[], by simp, rfl⟩
  | cons p r ih =>
    obtain ⟨u, h, l⟩ := ih (ands ++ [p])
    rw [List.append_assoc] at h
    exact ⟨_ :: u, by rw [show p :: r = [p] ++ r from rfl, h, vals_snoc, List.append_assoc]; rfl, by simp [l]⟩
theorem vals_len (base : List Int) (ands : List (Int × Int)) : (vals base ands).length = base.length + ands.length := by
  obtain ⟨u, h, l⟩ := vals_ext base [] ands
  rw [List.nil_append] at h
  rw [h, List.length_append, l]
  rfl
theorem getD_app {vs u : List Int} {k : Nat} (h : k < vs.length) : (vs ++ u).getD k 0 = vs.getD k 0 := by
  rw [List.getD_eq_getElem?_getD, List.getElem?_append_left h, ← List.getD_eq_getElem?_getD]
theorem lv_app {vs u : List Int} {l : Int} (h : (l / 2).toNat < vs.length) : lv (vs ++ u) l = lv vs l := by
  unfold lv; rw [getD_app h]
theorem lv_ext {base : List Int} {ands t : List (Int × Int)} {l : Int} (h0 : 0 ≤ l) (h : l < 2 * (base.length + ands.length)) : lv (vals base (ands ++ t)) l = lv (vals base ands) l := by
  obtain ⟨u, e, _⟩ := vals_ext base ands t
  rw [e, lv_app (by rw [vals_len]; omega)]
theorem vals_bits {base : List Int} (h : Bs base) (ands : List (Int × Int)) : Bs (vals base ands) := by
  induction ands generalizing base with
  | nil => exact h
  | cons p r ih =>
    refine ih (base := base ++ [lv base p.1 * lv base p.2]) fun x hx => ?_
    rcases List.mem_append.mp hx with hx | hx
    · exact h x hx
    · simp only [List.mem_singleton] at hx
      rw [hx]
      rcases h.lv p.1 with e | e <;> rcases h.lv p.2 with e' | e' <;> rw [e, e'] <;> simp
theorem lv_neg {vs : List Int} {l : Int} (h : 0 ≤ l) : lv vs (neg l) = 1 - lv vs l := by
  unfold lv neg
  by_cases e : l % 2 = 0
  · rw [if_pos e, if_pos (by omega), if_neg (by omega), show (l + 1) / 2 = l / 2 by omega]
  · rw [if_neg e, if_neg (by omega), if_pos (by omega), show (l - 1) / 2 = l / 2 by omega]
    omega
/-- the pairs are in order -/
structure WFg (f : Int) (ands : List (Int × Int)) : Prop where
  ok : ∀ (k : Nat) (p : Int × Int), ands[k]? = some p → 2 ≤ p.1 ∧ p.1 < p.2 ∧ p.2 < 2 * (f + k) ∧ p.1 / 2 ≠ p.2 / 2
  nd : ands.Nodup
theorem vals_get {f : Int} {base : List Int} {ands : List (Int × Int)} (W : WFg f ands) (hf : (base.length : Int) = f) {k : Nat} {p : Int × Int} (e : ands[k]? = some p) :
    (vals base ands).getD (base.length + k) 0 = lv (vals base ands) p.1 * lv (vals base ands) p.2 := by
  have hk : k < ands.length := by
    rcases Nat.lt_or_ge k ands.length with h | h
    · exact h
    · rw [List.getElem?_eq_none h] at e; cases e
  have hw := W.ok k p e
  have sp : ands = ands.take k ++ ([p] ++ ands.drop (k + 1)) := by
    have h1 := List.take_append_drop k ands
    have h2 : ands.drop k = p :: ands.drop (k + 1) := by
      rw [List.drop_eq_getElem_cons hk]
      rw [List.getElem?_eq_getElem hk] at e
      rw [Option.some.inj e]
    rw [h2] at h1
    exact h1.symm
  have l1 : (ands.take k).length = k := by rw [List.length_take]; omega
  have q1 : lv (vals base ands) p.1 = lv (vals base (ands.take k)) p.1 := by
    conv => lhs; rw [sp]
    exact lv_ext (by omega) (by rw [l1]; omega)
  have q2 : lv (vals base ands) p.2 = lv (vals base (ands.take k)) p.2 := by
    conv => lhs; rw [sp]
    exact lv_ext (by omega) (by rw [l1]; omega)
  rw [q1, q2]
  conv => lhs; rw [sp, ← List.append_assoc]
  obtain ⟨u, eu, _⟩ := vals_ext base (ands.take k ++ [p]) (ands.drop (k + 1))
  rw [eu, getD_app (by rw [vals_len, List.length_append, l1]; simp), vals_snoc]
  rw [List.getD_eq_getElem?_getD, List.getElem?_append_right (by rw [vals_len, l1]; omega), vals_len, l1]
  simp
/-- what a making of a literal gives: the pairs only grow, by n at most; the literal is one of them; its worth -/
structure Made (f : Int) (ands : List (Int × Int)) (n : Nat) (r : Int × List (Int × Int)) (wt : (Int → Int) → Int) : Prop where
  wf : WFg f r.2
  ex : ∃ t, r.2 = ands ++ t
  le : r.2.length ≤ ands.length + n
  r0 : 0 ≤ r.1
  r1 : r.1 < 2 * (f + r.2.length)
  wt : ∀ base : List Int, (base.length : Int) = f → Bs base → base.getD 0 0 = 0 → lv (vals base r.2) r.1 = wt (lv (vals base ands))
theorem lv0 {base : List Int} {ands : List (Int × Int)} (h : 0 < base.length) (h0 : base.getD 0 0 = 0) : (vals base ands).getD 0 0 = 0 := by
  obtain ⟨u, e, _⟩ := vals_ext base [] ands
  rw [List.nil_append] at e
  rw [e]
  show (base ++ u).getD 0 0 = 0
  rw [getD_app h]
  exact h0
theorem conj_ok {f : Int} {ands : List (Int × Int)} {a b : Int} (W : WFg f ands) (hf : 1 ≤ f) (a0 : 0 ≤ a) (a1 : a < 2 * (f + ands.length)) (b0 : 0 ≤ b) (b1 : b < 2 * (f + ands.length)) :
    Made f ands 1 (conj f ands a b) fun v => v a * v b := by
  have same : ∀ r : Int, 0 ≤ r → r < 2 * (f + ands.length) → (∀ base : List Int, (base.length : Int) = f → Bs base → base.getD 0 0 = 0 → lv (vals base ands) r = lv (vals base ands) a * lv (vals base ands) b) →
      Made f ands 1 (r, ands) fun v => v a * v b := fun r h0 h1 h2 => ⟨W, ⟨[], by simp⟩, by simp, h0, h1, h2⟩
  have key : ∀ base : List Int, (base.length : Int) = f → Bs base → base.getD 0 0 = 0 → (lv (vals base ands) 0 = 0 ∧ lv (vals base ands) 1 = 1) ∧ (∀ l, lv (vals base ands) l = 0 ∨ lv (vals base ands) l = 1) ∧
      lv (vals base ands) a * lv (vals base ands) b = lv (vals base ands) (min a b) * lv (vals base ands) (max a b) := by
    intro base hl hb h0
    have z := lv0 (base := base) (ands := ands) (by omega) h0
    refine ⟨⟨?_, ?_⟩, fun l => (vals_bits hb ands).lv l, ?_⟩
    · unfold lv; rw [if_neg (by decide)]; exact z
    · unfold lv; rw [if_pos (by decide)]
      have e : ((1 : Int) / 2).toNat = 0 := by decide
      rw [e, z]; rfl
    · rcases Int.le_total a b with h | h
      · rw [Int.min_eq_left h, Int.max_eq_right h]
      · rw [Int.min_eq_right h, Int.max_eq_left h, Int.mul_comm]
  have m0 : 0 ≤ min a b := by omega
  have m1 : max a b < 2 * (f + ands.length) := by omega
  have m2 : min a b ≤ max a b := by omega
  unfold conj
  simp only
  generalize min a b = l at *
  generalize max a b = h at *
  by_cases c0 : l = 0
  · rw [if_pos c0]
    refine same 0 (by omega) (by omega) fun base hl hb h0 => ?_
    obtain ⟨⟨k0, k1⟩, k2, k3⟩ := key base hl hb h0
    rw [k3, c0, k0]; simp
  rw [if_neg c0]
  by_cases c1 : l = 1
  · rw [if_pos c1]
    refine same h (by omega) m1 fun base hl hb h0 => ?_
    obtain ⟨⟨k0, k1⟩, k2, k3⟩ := key base hl hb h0
    rw [k3, c1, k1]; simp
  rw [if_neg c1]
  by_cases c2 : l = h
  · rw [if_pos c2]
    refine same l m0 (by omega) fun base hl hb h0 => ?_
    obtain ⟨⟨k0, k1⟩, k2, k3⟩ := key base hl hb h0
    rw [k3, ← c2]
    rcases k2 l with e | e <;> rw [e] <;> rfl
  rw [if_neg c2]
  by_cases c3 : neg l = h
  · rw [if_pos c3]
    refine same 0 (by omega) (by omega) fun base hl hb h0 => ?_
    obtain ⟨⟨k0, k1⟩, k2, k3⟩ := key base hl hb h0
    rw [k3, ← c3, lv_neg m0, k0]
    rcases k2 l with e | e <;> rw [e] <;> rfl
  rw [if_neg c3]
  by_cases c4 : (l, h) ∈ ands
  · rw [if_pos c4]
    have hi := List.idxOf_lt_length_of_mem c4
    have e : ands[ands.idxOf (l, h)]? = some (l, h) := by rw [List.getElem?_eq_getElem hi, List.getElem_idxOf hi]
    refine same _ (by omega) (by omega) fun base hl hb h0 => ?_
    obtain ⟨⟨k0, k1⟩, k2, k3⟩ := key base hl hb h0
    rw [k3, ← vals_get W hl e]
    unfold lv
    rw [if_neg (by omega)]
    congr 1
    omega
  rw [if_neg c4]
  have W' : WFg f (ands ++ [(l, h)]) := by
    refine ⟨fun k p e => ?_, ?_⟩
    · rcases Nat.lt_or_ge k ands.length with hk | hk
      · rw [List.getElem?_append_left hk] at e
        exact W.ok k p e
      · rw [List.getElem?_append_right hk] at e
        have : k = ands.length := by
          rcases Nat.eq_or_lt_of_le hk with z | z
          · exact z.symm
          · rw [List.getElem?_eq_none (by simp; omega)] at e; cases e
        subst this
        simp at e
        subst e
        refine ⟨by simp only; omega, by simp only; omega, m1, ?_⟩
        simp only
        unfold neg at c3
        split at c3 <;> omega
    · rw [List.nodup_append]
      exact ⟨W.nd, by simp, by intro x hx y hy; simp at hy; subst hy; intro e; subst e; exact c4 hx⟩
  refine ⟨W', ⟨[(l, h)], rfl⟩, by simp, by simp only; omega, by simp only [List.length_append, List.length_cons, List.length_nil]; omega, fun base hl hb h0 => ?_⟩
  obtain ⟨⟨k0, k1⟩, k2, k3⟩ := key base hl hb h0
  simp only
  rw [k3, ← lv_ext (t := [(l, h)]) (by omega) (show l < 2 * (base.length + ands.length) by omega), ← lv_ext (t := [(l, h)]) (by omega) (show h < 2 * (base.length + ands.length) by omega)]
  rw [← vals_get (k := ands.length) (p := (l, h)) W' hl (by simp)]
  unfold lv
  rw [if_neg (by omega)]
  congr 1
  omega
def disj (f : Int) (ands : List (Int × Int)) (a b : Int) : Int × List (Int × Int) := (neg (conj f ands (neg a) (neg b)).1, (conj f ands (neg a) (neg b)).2)
def excl (f : Int) (ands : List (Int × Int)) (a b : Int) : Int × List (Int × Int) :=
  let r := conj f ands a (neg b)
  let s := conj f r.2 (neg a) b
  disj f s.2 r.1 s.1
def pick (f : Int) (ands : List (Int × Int)) (c a b : Int) : Int × List (Int × Int) :=
  let r := conj f ands c a
  let s := conj f r.2 (neg c) b
  disj f s.2 r.1 s.1
theorem neg_rng {l m : Int} (h0 : 0 ≤ l) (h1 : l < 2 * m) : 0 ≤ neg l ∧ neg l < 2 * m := by
  unfold neg; split <;> omega
theorem disj_ok {f : Int} {ands : List (Int × Int)} {a b : Int} (W : WFg f ands) (hf : 1 ≤ f) (a0 : 0 ≤ a) (a1 : a < 2 * (f + ands.length)) (b0 : 0 ≤ b) (b1 : b < 2 * (f + ands.length)) :
    Made f ands 1 (disj f ands a b) fun v => v a + v b - v a * v b := by
  have na := neg_rng a0 a1
  have nb := neg_rng b0 b1
  have M := conj_ok W hf na.1 na.2 nb.1 nb.2
  have nr := neg_rng M.r0 M.r1
  refine ⟨M.wf, M.ex, M.le, nr.1, nr.2, fun base hl hb h0 => ?_⟩
  show lv (vals base (conj f ands (neg a) (neg b)).2) (neg (conj f ands (neg a) (neg b)).1) = _
  rw [lv_neg M.r0, M.wt base hl hb h0, lv_neg a0, lv_neg b0]
  rcases (vals_bits hb ands).lv a with e | e <;> rcases (vals_bits hb ands).lv b with e' | e' <;> rw [e, e'] <;> rfl
/-- two conjunctions and their disjunction -/
theorem two_ok {f : Int} {ands : List (Int × Int)} {a b c d : Int} (W : WFg f ands) (hf : 1 ≤ f) (a0 : 0 ≤ a) (a1 : a < 2 * (f + ands.length)) (b0 : 0 ≤ b) (b1 : b < 2 * (f + ands.length)) (c0 : 0 ≤ c) (c1 : c < 2 * (f + ands.length)) (d0 : 0 ≤ d) (d1 : d < 2 * (f + ands.length)) :
    Made f ands 3 (disj f (conj f (conj f ands a b).2 c d).2 (conj f ands a b).1 (conj f (conj f ands a b).2 c d).1) fun v => v a * v b + v c * v d - v a * v b * (v c * v d) := by
  have M := conj_ok W hf a0 a1 b0 b1
  obtain ⟨t, et⟩ := M.ex
  generalize hr : conj f ands a b = r at *
  have l1 : ands.length ≤ r.2.length := by rw [et]; simp
  have M2 := conj_ok (a := c) (b := d) M.wf hf c0 (by omega) d0 (by omega)
  obtain ⟨u, eu⟩ := M2.ex
  generalize hs : conj f r.2 c d = s at *
  have l2 : r.2.length ≤ s.2.length := by rw [eu]; simp
  have M3 := disj_ok (a := r.1) (b := s.1) M2.wf hf M.r0 (by have := M.r1; omega) M2.r0 M2.r1
  obtain ⟨x, ex⟩ := M3.ex
  refine ⟨M3.wf, ⟨t ++ (u ++ x), by rw [ex, eu, et]; simp⟩, by have := M.le; have := M2.le; have := M3.le; omega, M3.r0, M3.r1, fun base hl hb h0 => ?_⟩
  rw [M3.wt base hl hb h0, M2.wt base hl hb h0]
  have q1 : lv (vals base s.2) r.1 = lv (vals base r.2) r.1 := by rw [eu]; exact lv_ext M.r0 (by have := M.r1; omega)
  have q2 : lv (vals base r.2) c = lv (vals base ands) c := by rw [et]; exact lv_ext (by omega) (by omega)
  have q3 : lv (vals base r.2) d = lv (vals base ands) d := by rw [et]; exact lv_ext (by omega) (by omega)
  rw [q1, M.wt base hl hb h0, q2, q3]
theorem excl_ok {f : Int} {ands : List (Int × Int)} {a b : Int} (W : WFg f ands) (hf : 1 ≤ f) (a0 : 0 ≤ a) (a1 : a < 2 * (f + ands.length)) (b0 : 0 ≤ b) (b1 : b < 2 * (f + ands.length)) :
    Made f ands 3 (excl f ands a b) fun v => (v a + v b) % 2 := by
  have na := neg_rng a0 a1
  have nb := neg_rng b0 b1
  have M := two_ok W hf a0 a1 nb.1 nb.2 na.1 na.2 b0 b1
  refine ⟨M.wf, M.ex, M.le, M.r0, M.r1, fun base hl hb h0 => ?_⟩
  refine (M.wt base hl hb h0).trans ?_
  rw [lv_neg a0, lv_neg b0]
  rcases (vals_bits hb ands).lv a with e | e <;> rcases (vals_bits hb ands).lv b with e' | e' <;> rw [e, e'] <;> rfl
theorem pick_ok {f : Int} {ands : List (Int × Int)} {c a b : Int} (W : WFg f ands) (hf : 1 ≤ f) (c0 : 0 ≤ c) (c1 : c < 2 * (f + ands.length)) (a0 : 0 ≤ a) (a1 : a < 2 * (f + ands.length)) (b0 : 0 ≤ b) (b1 : b < 2 * (f + ands.length)) :
    Made f ands 3 (pick f ands c a b) fun v => if v c = 1 then v a else v b := by
  have nc := neg_rng c0 c1
  have M := two_ok W hf c0 c1 a0 a1 nc.1 nc.2 b0 b1
  refine ⟨M.wf, M.ex, M.le, M.r0, M.r1, fun base hl hb h0 => ?_⟩
  refine (M.wt base hl hb h0).trans ?_
  rw [lv_neg c0]
  rcases (vals_bits hb ands).lv a with e | e <;> rcases (vals_bits hb ands).lv b with e' | e' <;> rcases (vals_bits hb ands).lv c with e2 | e2 <;> rw [e, e', e2] <;> rfl
/-! ### the graph's other methods -/
theorem neg_nn {l : Int} (h : 0 ≤ l) : 0 ≤ neg l := by unfold neg; split <;> omega
theorem conj_len (f : Int) (ands : List (Int × Int)) (a b : Int) : (conj f ands a b).2.length ≤ ands.length + 1 := by
  unfold conj
  simp only
  repeat' split
  all_goals simp
theorem conj_nn {f : Int} {ands : List (Int × Int)} {a b : Int} (hf : 0 ≤ f) (ha : 0 ≤ a) (hb : 0 ≤ b) : 0 ≤ (conj f ands a b).1 := by
  unfold conj
  simp only
  repeat' split
  all_goals simp only
  all_goals omega
section
variable {v : Ev} {n : Nat} {w : Wd} {A : GA} {inp : Int} {regs ands : List (Int × Int)} {ods : List Int} {a b c : Int} {Q : VK} {E : XK}
theorem disj_spec (hg : v.gv g_max_nodes = .int 4000) (G : Gr (v.cls c_Graph) w A inp regs ands ods) (ha : 0 ≤ a) (hb : 0 ≤ b)
    (hi : 0 ≤ inp) (hm : 1 + inp + regs.length + ands.length < 4000)
    (q : ∀ w', Ex [A.an, A.kn] w w' → Gr (v.cls c_Graph) w' A inp regs (disj (1 + inp + regs.length) ands a b).2 ods → Q (.int (disj (1 + inp + regs.length) ands a b).1) w'.H) :
    spOf v D (n + 3) i_Graph_disjunction [.ref A.g, .int a, .int b] w.H Q E := by
  refine in_Graph_disjunction ?_
  unfold b_Graph_disjunction
  walk_at "go"
  refine k_me G.og (by rfl) ?_
  walk_at "go"
  refine negated_spec ha ?_
  walk_at "go"
  refine negated_spec hb ?_
  walk_at "go"
  refine conj_spec hg G (neg_nn ha) (neg_nn hb) hi hm fun w1 e1 G1 => ?_
  walk_at "go"
  refine negated_spec (conj_nn (by omega) (neg_nn ha) (neg_nn hb)) ?_
  exact q w1 e1 G1
theorem excl_spec (hg : v.gv g_max_nodes = .int 4000) (G : Gr (v.cls c_Graph) w A inp regs ands ods) (ha : 0 ≤ a) (hb : 0 ≤ b)
    (hi : 0 ≤ inp) (hm : 1 + inp + regs.length + ands.length + 2 < 4000)
    (q : ∀ w', Ex [A.an, A.kn] w w' → Gr (v.cls c_Graph) w' A inp regs (excl (1 + inp + regs.length) ands a b).2 ods → Q (.int (excl (1 + inp + regs.length) ands a b).1) w'.H) :
    spOf v D (n + 4) i_Graph_exclusive [.ref A.g, .int a, .int b] w.H Q E := by
  have l1 := conj_len (1 + inp + regs.length) ands a (neg b)
  have l2 := conj_len (1 + inp + regs.length) (conj (1 + inp + regs.length) ands a (neg b)).2 (neg a) b
  refine in_Graph_exclusive ?_
  unfold b_Graph_exclusive
  walk_at "go"
  refine k_me G.og (by rfl) ?_
  walk_at "go"
  refine negated_spec hb ?_
  walk_at "go"
  refine conj_spec hg G ha (neg_nn hb) hi (by omega) fun w1 e1 G1 => ?_
  walk_at "go"
  refine k_me G1.og (by rfl) ?_
  walk_at "go"
  refine negated_spec ha ?_
  walk_at "go"
  refine conj_spec hg G1 (neg_nn ha) hb hi (by omega) fun w2 e2 G2 => ?_
  walk_at "go"
  refine k_me G2.og (by rfl) ?_
  walk_at "go"
  refine disj_spec hg G2 (conj_nn (by omega) ha (neg_nn hb)) (conj_nn (by omega) (neg_nn ha) hb) hi (by omega) fun w3 e3 G3 => ?_
  exact q w3 ((e1.tt e2).tt e3) G3
theorem pick_spec (hg : v.gv g_max_nodes = .int 4000) (G : Gr (v.cls c_Graph) w A inp regs ands ods) (hc : 0 ≤ c) (ha : 0 ≤ a) (hb : 0 ≤ b)
    (hi : 0 ≤ inp) (hm : 1 + inp + regs.length + ands.length + 2 < 4000)
    (q : ∀ w', Ex [A.an, A.kn] w w' → Gr (v.cls c_Graph) w' A inp regs (pick (1 + inp + regs.length) ands c a b).2 ods → Q (.int (pick (1 + inp + regs.length) ands c a b).1) w'.H) :
    spOf v D (n + 4) i_Graph_choice [.ref A.g, .int c, .int a, .int b] w.H Q E := by
  have l1 := conj_len (1 + inp + regs.length) ands c a
  have l2 := conj_len (1 + inp + regs.length) (conj (1 + inp + regs.length) ands c a).2 (neg c) b
  refine in_Graph_choice ?_
  unfold b_Graph_choice
  walk_at "go"
  refine k_me G.og (by rfl) ?_
  walk_at "go"
  refine conj_spec hg G hc ha hi (by omega) fun w1 e1 G1 => ?_
  walk_at "go"
  refine k_me G1.og (by rfl) ?_
  walk_at "go"
  refine negated_spec hc ?_
  walk_at "go"
  refine conj_spec hg G1 (neg_nn hc) hb hi (by omega) fun w2 e2 G2 => ?_
  walk_at "go"
  refine k_me G2.og (by rfl) ?_
  walk_at "go"
  refine disj_spec hg G2 (conj_nn (by omega) hc ha) (conj_nn (by omega) (neg_nn hc) hb) hi (by omega) fun w3 e3 G3 => ?_
  exact q w3 ((e1.tt e2).tt e3) G3
end
/-- the registers of a new graph -/
def regs0 (inp : Int) (bs : List Int) : Nat → List (Int × Int)
  | 0 => []
  | k + 1 => regs0 inp bs k ++ [(2 * (1 + inp + k), bs.getD k 0)]
theorem regs0_len (inp : Int) (bs : List Int) : ∀ k, (regs0 inp bs k).length = k
  | 0 => rfl
  | k + 1 => by simp [regs0, regs0_len inp bs k]
theorem init_spec {v : Ev} {n : Nat} {w : Wd} {g dx : Addr} {x : V} {inp : Int} {bs : List Int} {Q : VK} {E : XK} (hg : v.gv g_max_nodes = .int 4000) (o : Op w g (.ins (v.cls c_Graph) dx [])) (hx : Dv w x (.list (bs.map .int)))
    (hi : 0 ≤ inp) (hm : 1 + inp + bs.length ≤ 4000)
    (q : ∀ w' A, A.g = g → Ex [g] w w' → Gr (v.cls c_Graph) w' A inp (regs0 inp bs bs.length) [] [] → (∀ b o, w.H b = some o → b ≠ g → ¬ A.has b) → Q .non w'.H) : spOf v D (n + 1) i_Graph_init [.ref g, .int inp, x] w.H Q E := by
  refine in_Graph_init ?_
  unfold b_Graph_init
  walk_at "go"
  refine f_lenL hx ?_
  walk_at "go"
  rw [List.length_map]
  refine kif_d (fun h => by omega) fun _ => ?_
  walk_at "go"
  refine k_ft o (by simp) (gs := [("inputs", .int inp)]) rfl fun w1 e1 o1 => ?_
  walk_at "go"
  refine k_lstO (by simp) fun w2 r e2 hr o2 => ?_
  have or1 := o1.ne hr
  have p1 := o1.ex e2 (by simp)
  walk_at "go"
  refine k_ft p1 (by simp) (gs := [("inputs", .int inp), ("registers", .ref r)]) (by rfl) fun w3 e3 o3 => ?_
  have r3 := o2.ex e3 (by simpa using Ne.symm or1)
  walk_at "go"
  refine k_lstO (by simp) fun w4 an e4 ha o4 => ?_
  have ga := o3.ne ha
  have ra := r3.ne ha
  have p3 := o3.ex e4 (by simp)
  have r4 := r3.ex e4 (by simp)
  walk_at "go"
  refine k_ft p3 (by simp) (gs := [("inputs", .int inp), ("registers", .ref r), ("ands", .ref an)]) (by rfl) fun w5 e5 o5 => ?_
  have r5 := r4.ex e5 (by simpa using Ne.symm or1)
  have a5 := o4.ex e5 (by simpa using Ne.symm ga)
  walk_at "go"
  refine k_lstO (by simp) fun w6 ou e6 hou o6 => ?_
  have go := o5.ne hou
  have ro := r5.ne hou
  have ao := a5.ne hou
  have p5 := o5.ex e6 (by simp)
  have r6 := r5.ex e6 (by simp)
  have a6 := a5.ex e6 (by simp)
  walk_at "go"
  refine k_ft p5 (by simp) (gs := [("inputs", .int inp), ("registers", .ref r), ("ands", .ref an), ("outputs", .ref ou)]) (by rfl) fun w7 e7 o7 => ?_
  have r7 := r6.ex e7 (by simpa using Ne.symm or1)
  have a7 := a6.ex e7 (by simpa using Ne.symm ga)
  have u7 := o6.ex e7 (by simpa using Ne.symm go)
  walk_at "go"
  refine new_op fun w8 kn e8 hkn o8 => ?_
  have gk := o7.ne hkn
  have rk := r7.ne hkn
  have p7 := o7.ex e8 (by simp)
  have r8 := r7.ex e8 (by simp)
  have a8 := a7.ex e8 (by simp)
  have u8 := u7.ex e8 (by simp)
  have ak := a7.ne hkn
  have uk := u7.ne hkn
  walk_at "go"
  refine k_ft p7 (by simp) (gs := gfs ⟨g, dx, r, an, ou, kn⟩ inp) (by rfl) fun w9 e9 o9 => ?_
  have r9 := r8.ex e9 (by simpa using Ne.symm or1)
  have a9 := a8.ex e9 (by simpa using Ne.symm ga)
  have u9 := u8.ex e9 (by simpa using Ne.symm go)
  have k9 := o8.ex e9 (by simpa using Ne.symm gk)
  have E9 : Ex [g] w w9 := (((((((e1.t0 e2).tt e3).t0 e4).tt e5).t0 e6).tt e7).t0 e8).tt e9
  have fr : w.H r = none := e1.free hr
  have fa : w.H an = none := ((e1.t0 e2).tt e3).free ha
  have fo : w.H ou = none := ((((e1.t0 e2).tt e3).t0 e4).tt e5).free hou
  have fk : w.H kn = none := ((((((e1.t0 e2).tt e3).t0 e4).tt e5).t0 e6).tt e7).free hkn
  walk_at "go"
  refine f_lenL (hx.ex E9) ?_
  walk_at "go"
  rw [List.length_map]
  refine k_r1 (by omega) (by omega) ?_
  refine k_for_n bs.length (by simp) (fun i σ w' => ∃ a1 a2 vs, σ = [some (.ref g), some (.int inp), some x, a1, a2] ∧ Ex [g] w w' ∧ Op w' g (.ins (v.cls c_Graph) dx (gfs ⟨g, dx, r, an, ou, kn⟩ inp)) ∧ Op w' r (.lst vs) ∧ Dvs w' vs ((regs0 inp bs i).map dp) ∧
    Op w' an (.lst []) ∧ Op w' ou (.lst []) ∧ Op w' kn (.dT [])) ⟨_, _, [], rfl, E9, o9, r9, .nil, a9, u9, k9⟩ ?_ ?_
  · rintro i σ w' hlt ⟨a1, a2, vs, rfl, E, og, orr, dr, oa, ou', ok⟩
    walk_at "go"
    refine o_mul (.inl ⟨by decide, by decide⟩) ?_
    walk_at "go"
    refine k_fl og (by rfl) ?_
    refine k_m1 orr.h rfl ?_
    walk_at "go"
    refine i_G (hx.ex E) (by omega) (by omega) ?_
    walk_at "go"
    refine k_tup (by simp) (.cons (.int _) (.cons (.int _) .nil)) fun w1 x1 e1 d1 => ?_
    walk_at "go"
    refine m_app (orr.ex e1 (by simp)) (by rw [dr.length, List.length_map, regs0_len, sizeLine_eq]; omega) fun w2 e2 o2 => ?_
    walk_at "go"
    refine k_is ⟨_, _, _, rfl, (E.t0 e1).tf e2 fr, (og.ex e1 (by simp)).set_ne e2 or1, o2, ?_, (oa.ex e1 (by simp)).set_ne e2 (Ne.symm ra), (ou'.ex e1 (by simp)).set_ne e2 (Ne.symm ro), (ok.ex e1 (by simp)).set_ne e2 (Ne.symm rk)⟩
    unfold regs0
    rw [List.map_append]
    exact ((dr.ex e1).ex e2).app (.cons (d1.ex e2) .nil)
  · rintro σ w' ⟨a1, a2, vs, rfl, E, og, orr, dr, oa, ou', ok⟩
    walk_at "go"
    refine q w' ⟨g, dx, r, an, ou, kn⟩ rfl E ⟨og, ⟨vs, orr, dr⟩, ⟨[], oa, .nil⟩, ou', ok, Ne.symm ra, ao, ro⟩ ?_
    rintro b o hb hbg (h | h | h | h | h)
    · exact hbg h
    · rw [show b = r from h, fr] at hb; cases hb
    · rw [show b = an from h, fa] at hb; cases hb
    · rw [show b = ou from h, fo] at hb; cases hb
    · rw [show b = kn from h, fk] at hb; cases hb
/-- the literals are nodes of the graph -/
def Lits (f : Int) (ands : List (Int × Int)) (ls : List Int) : Prop := ∀ l ∈ ls, 0 ≤ l ∧ l < 2 * (f + ands.length)
theorem Lits.more {f : Int} {ands t : List (Int × Int)} {ls : List Int} (h : Lits f ands ls) : Lits f (ands ++ t) ls := fun l hl => by
  have := h l hl
  exact ⟨this.1, by rw [List.length_append]; omega⟩
theorem Lits.get {f : Int} {ands : List (Int × Int)} {ls : List Int} (h : Lits f ands ls) {k : Nat} (hk : k < ls.length) : 0 ≤ ls.getD k 0 ∧ ls.getD k 0 < 2 * (f + ands.length) := by
  rw [List.getD_eq_getElem?_getD, List.getElem?_eq_getElem hk]
  exact h _ (List.getElem_mem hk)
theorem xor01 {l r : Int} (hl : 0 ≤ l) (h0 : 0 ≤ r) (h1 : r < 2) : Builtin.bitXor l r = if r = 0 then l else neg l := by
  have : r = 0 ∨ r = 1 := by omega
  rcases this with e | e
  · subst e; exact bitXor_zero l
  · subst e; rw [xor1 hl]; rfl
theorem xor_rng {l r m : Int} (hl : 0 ≤ l) (h0 : 0 ≤ r) (h1 : r < 2) (h : l < 2 * m) : 0 ≤ Builtin.bitXor l r ∧ Builtin.bitXor l r < 2 * m := by
  rw [xor01 hl h0 h1]
  have := neg_rng hl h
  split
  · exact ⟨hl, h⟩
  · exact this
/-! ### a grown graph -/
def dueI (k x y z : Int) : Int := if k = 0 then x * y else if k = 1 then x + y - x * y else if k = 2 then (x + y) % 2 else if x = 1 then y else z
def callr (f : Int) (ands : List (Int × Int)) (k x y z : Int) : Int × List (Int × Int) := if k = 0 then conj f ands x y else if k = 1 then disj f ands x y else if k = 2 then excl f ands x y else pick f ands x y z
theorem callr_ok {f : Int} {ands : List (Int × Int)} {k x y z : Int} (W : WFg f ands) (hf : 1 ≤ f) (x0 : 0 ≤ x) (x1 : x < 2 * (f + ands.length)) (y0 : 0 ≤ y) (y1 : y < 2 * (f + ands.length)) (z0 : 0 ≤ z) (z1 : z < 2 * (f + ands.length)) :
    Made f ands 3 (callr f ands k x y z) fun v => dueI k (v x) (v y) (v z) := by
  unfold callr dueI
  by_cases h : k = 0
  · simp only [if_pos h]
    have M := conj_ok W hf x0 x1 y0 y1
    exact ⟨M.wf, M.ex, by have := M.le; omega, M.r0, M.r1, M.wt⟩
  simp only [if_neg h]
  by_cases h : k = 1
  · simp only [if_pos h]
    have M := disj_ok W hf x0 x1 y0 y1
    exact ⟨M.wf, M.ex, by have := M.le; omega, M.r0, M.r1, M.wt⟩
  simp only [if_neg h]
  by_cases h : k = 2
  · simp only [if_pos h]
    exact excl_ok W hf x0 x1 y0 y1
  simp only [if_neg h]
  exact pick_ok W hf x0 x1 y0 y1 z0 z1
theorem oper_spec {v : Ev} {n : Nat} {w : Wd} {A : GA} {inp : Int} {regs ands : List (Int × Int)} {ods : List Int} {k x y z : Int} {Q : VK} {E : XK} (hg : v.gv g_max_nodes = .int 4000) (G : Gr (v.cls c_Graph) w A inp regs ands ods) (hx : 0 ≤ x) (hy : 0 ≤ y) (hz : 0 ≤ z)
    (hi : 0 ≤ inp) (hm : 1 + inp + regs.length + ands.length + 2 < 4000)
    (q : ∀ w', Ex [A.an, A.kn] w w' → Gr (v.cls c_Graph) w' A inp regs (callr (1 + inp + regs.length) ands k x y z).2 ods → Q (.int (callr (1 + inp + regs.length) ands k x y z).1) w'.H) :
    spOf v D (n + 5) i_law_operate [.ref A.g, .int k, .int x, .int y, .int z] w.H Q E := by
  refine in_law_operate ?_
  unfold b_law_operate
  unfold callr at q
  walk_at "go"
  refine kif_d (fun h => ?_) fun h => ?_
  · simp only [if_pos h] at q
    walk_at "go"
    refine k_me G.og (by rfl) ?_
    walk_at "go"
    exact conj_spec hg G hx hy hi (by omega) q
  simp only [if_neg h] at q
  walk_at "go"
  refine kif_d (fun h => ?_) fun h => ?_
  · simp only [if_pos h] at q
    walk_at "go"
    refine k_me G.og (by rfl) ?_
    walk_at "go"
    exact disj_spec hg G hx hy hi (by omega) q
  simp only [if_neg h] at q
  walk_at "go"
  refine kif_d (fun h => ?_) fun h => ?_
  · simp only [if_pos h] at q
    walk_at "go"
    refine k_me G.og (by rfl) ?_
    walk_at "go"
    exact excl_spec hg G hx hy hi hm q
  simp only [if_neg h] at q
  walk_at "go"
  refine k_me G.og (by rfl) ?_
  walk_at "go"
  exact pick_spec hg G hx hy hz hi hm q

theorem grow_spec {v : Ev} {n : Nat} {w : Wd} {A : GA} {inp m : Int} {regs ands : List (Int × Int)} {ods ls : List Int} {s c ll : Addr} {Q : VK} {E : XK} (hg : v.gv g_max_nodes = .int 4000) (g : Gen w s c) (G : Gr (v.cls c_Graph) w A inp regs ands ods)
    (W : WFg (1 + inp + regs.length) ands) (hi : 0 ≤ inp) (o : Op w ll (.lst (ls.map V.int))) (hls : Lits (1 + inp + regs.length) ands ls) (hp : 0 < ls.length) (hp2 : ls.length < 1000) (m0 : 0 ≤ m) (m1 : m < 1000) (hm : 1 + inp + regs.length + ands.length + 3 * m + 2 < 4000)
    (ns : ¬ A.has s) (nc : ¬ A.has c) (nl : ¬ A.has ll) (ks : ll ≠ s) (kc : ll ≠ c)
    (q : ∀ w' ands' ls', Ex [s, c, A.an, A.kn, ll] w w' → Gen w' s c → Gr (v.cls c_Graph) w' A inp regs ands' ods → WFg (1 + inp + regs.length) ands' → (∃ t, ands' = ands ++ t) → (ands'.length : Int) ≤ ands.length + 3 * m → Op w' ll (.lst (ls'.map V.int)) → (ls'.length : Int) = ls.length + m → Lits (1 + inp + regs.length) ands' ls' → Q .non w'.H) :
    spOf v D (n + 6) i_law_grow [.ref s, .ref A.g, .ref ll, .int m] w.H Q E := by
  have hT : ∀ b ∈ [s, c, A.an, A.kn, ll], ¬ w.S b := by
    intro b hb
    have h1 := g.op
    have h2 := G.opn
    simp only [List.mem_cons, List.not_mem_nil, or_false, forall_eq_or_imp, forall_eq] at hb h1 h2
    rcases hb with rfl | rfl | rfl | rfl | rfl
    · exact h1.1
    · exact h1.2
    · exact h2.1
    · exact h2.2
    · exact o.n
  have nsc : ∀ b ∈ [s, c], ¬ A.has b := by
    intro b hb
    simp only [List.mem_cons, List.not_mem_nil, or_false] at hb
    rcases hb with rfl | rfl
    · exact ns
    · exact nc
  have nT : ∀ b ∈ [ll], ¬ A.has b := by simpa using nl
  refine in_law_grow ?_
  unfold b_law_grow
  walk_at "go"
  refine k_r1 (by omega) (by omega) ?_
  refine k_for_n m.toNat rfl (fun i σ w' => ∃ a4 a5 a6 a7 a8 ands' ls', σ = [some (.ref s), some (.ref A.g), some (.ref ll), some (.int m), a4, a5, a6, a7, a8] ∧ Ex [s, c, A.an, A.kn, ll] w w' ∧ Gen w' s c ∧ Gr (v.cls c_Graph) w' A inp regs ands' ods ∧ WFg (1 + inp + regs.length) ands' ∧ (∃ t, ands' = ands ++ t) ∧
    ands'.length ≤ ands.length + 3 * i ∧ Op w' ll (.lst (ls'.map V.int)) ∧ ls'.length = ls.length + i ∧ Lits (1 + inp + regs.length) ands' ls') ?_ ?_ ?_
  · exact ⟨_, _, _, _, _, ands, ls, rfl, (Ex.refl w).more (by simp) hT, g, G, W, ⟨[], by simp⟩, by omega, o, by omega, hls⟩
  · rintro i σ w' hi' ⟨a4, a5, a6, a7, a8, ands', ls', rfl, E', g', G', W', ⟨t, et⟩, hla, o', hll, hls'⟩
    walk_at "go"
    refine take_spec g' (by decide) (by decide) fun w1 k e1 g1 k0 k1 => ?_
    have o1 := o'.ex e1 (by simp [ks, kc])
    walk_at "go"
    refine k_lstO (by simp) fun w2 p e2 hp2' o2 => ?_
    have g2 := g1.ex0 e2
    have ps := g1.fs hp2'
    have pc := g1.fc hp2'
    have pl : ll ≠ p := o1.ne hp2'
    have np : ¬ A.has p := (G'.ex e1 nsc).fresh hp2'
    have pw : w.H p = none := ((E'.trans e1 (by simp)).t0 (Ex.refl w1)).free hp2'
    walk_at "go"
    refine k_r1 (by decide) (by decide) ?_
    refine k_for_n 3 rfl (fun j σ w'' => ∃ b7 b8 ps', σ = [some (.ref s), some (.ref A.g), some (.ref ll), some (.int m), some (.int i), some (.int k), some (.ref p), b7, b8] ∧ Ex [s, c, A.an, A.kn, ll] w w'' ∧ Gen w'' s c ∧ Gr (v.cls c_Graph) w'' A inp regs ands' ods ∧ Op w'' ll (.lst (ls'.map V.int)) ∧ Op w'' p (.lst (ps'.map V.int)) ∧ ps'.length = j ∧ Lits (1 + inp + regs.length) ands' ps') ?_ ?_ ?_
    · exact ⟨_, _, [], rfl, (E'.trans e1 (by simp)).t0 e2, g2, (G'.ex e1 nsc).ex0 e2, o1.ex e2 (by simp), o2, rfl, fun l h => by simp at h⟩
    · rintro j σ w'' hj ⟨b7, b8, ps', rfl, E'', g'', G'', o'', op'', hpl, hps⟩
      walk_at "go"
      refine f_lenO o''.h ?_
      walk_at "go"
      refine f_lenO o''.h ?_
      walk_at "go"
      rw [List.length_map]
      refine take_spec g'' (by split <;> omega) (by split <;> omega) fun w3 u e3 g3 u0 u1 => ?_
      have o3 := o''.ex e3 (by simp [ks, kc])
      have op3 := op''.ex e3 (by simp [Ne.symm ps, Ne.symm pc])
      have hu : u < ls'.length := by split at u1 <;> omega
      walk_at "go"
      refine k_m1 op3.h rfl ?_
      walk_at "go"
      refine i_OG o3.h (by omega) (by omega) ?_
      walk_at "go"
      refine take_spec g3 (by decide) (by decide) fun w4 r e4 g4 r0 r1 => ?_
      have o4 := o3.ex e4 (by simp [ks, kc])
      have op4 := op3.ex e4 (by simp [Ne.symm ps, Ne.symm pc])
      walk_at "go"
      have hl := hls'.get (k := ((ls'.length : Int) - 1 - u).toNat) (by omega)
      have hx := xor_rng hl.1 r0 r1 hl.2
      refine m_app op4 (by rw [List.length_map, sizeLine_eq]; omega) fun w5 e5 o5 => ?_
      walk_at "go"
      refine k_is ⟨_, _, ps' ++ [Builtin.bitXor (ls'.getD ((ls'.length : Int) - 1 - u).toNat 0) r], rfl, ((E''.trans e3 (by simp)).trans e4 (by simp)).tf e5 pw, g4.ex e5 (by simpa using ps) (by simpa using pc), ((G''.ex e3 nsc).ex e4 nsc).ex e5 (by simpa using np), o4.ex e5 (by simpa using pl), by simpa using o5, by simp [hpl], ?_⟩
      intro l hl'
      rcases List.mem_append.mp hl' with h | h
      · exact hps l h
      · simp only [List.mem_singleton] at h
        rw [h]; exact hx
    · rintro σ w'' ⟨b7, b8, ps', rfl, E'', g'', G'', o'', op'', hpl, hps⟩
      walk_at "go"
      refine k_m1 o''.h rfl ?_
      walk_at "go"
      refine i_OG op''.h (by decide) (by omega) ?_
      walk_at "go"
      refine i_OG op''.h (by decide) (by omega) ?_
      walk_at "go"
      refine i_OG op''.h (by decide) (by omega) ?_
      walk_at "go"
      have x1 := hps.get (k := (0 : Int).toNat) (by rw [hpl]; decide)
      have x2 := hps.get (k := (1 : Int).toNat) (by rw [hpl]; decide)
      have x3 := hps.get (k := (2 : Int).toNat) (by rw [hpl]; decide)
      refine oper_spec hg G'' x1.1 x2.1 x3.1 hi (by omega) fun w3 e3 G3 => ?_
      have M := callr_ok (k := k) W' (by omega) x1.1 x1.2 x2.1 x2.2 x3.1 x3.2
      generalize callr (1 + inp + regs.length) ands' k (ps'.getD (0 : Int).toNat 0) (ps'.getD (1 : Int).toNat 0) (ps'.getD (2 : Int).toNat 0) = r at M G3
      obtain ⟨t2, et2⟩ := M.ex
      have g3 := g''.ex e3 (GA.no ns) (GA.no nc)
      have o3 := o''.ex e3 (GA.no nl)
      walk_at "go"
      refine m_app o3 (by rw [List.length_map, sizeLine_eq]; omega) fun w4 e4 o4 => ?_
      walk_at "go"
      refine k_is ⟨_, _, _, _, _, r.2, ls' ++ [r.1], rfl, (E''.trans e3 (by simp)).trans e4 (by simp), g3.ex e4 (by simpa using Ne.symm ks) (by simpa using Ne.symm kc), G3.ex e4 nT, M.wf, ⟨t ++ t2, by rw [et2, et, List.append_assoc]⟩, by have := M.le; omega, by simpa using o4, by simp [hll]; omega, ?_⟩
      intro l hl'
      rcases List.mem_append.mp hl' with h | h
      · rw [et2]; exact hls'.more l h
      · simp only [List.mem_singleton] at h
        rw [h]; exact ⟨M.r0, M.r1⟩
  · rintro σ w' ⟨a4, a5, a6, a7, a8, ands', ls', rfl, E', g', G', W', ht, hla, o', hll, hls'⟩
    walk_at "go"
    exact q w' ands' ls' E' g' G' W' ht (by omega) o' (by omega) hls'
/-! ### a machine, drawn -/
theorem setnext_spec {v : Ev} {n : Nat} {w : Wd} {A : GA} {inp l : Int} {i : Nat} {regs ands : List (Int × Int)} {ods : List Int} {Q : VK} {E : XK} (G : Gr (v.cls c_Graph) w A inp regs ands ods) (hi : i < regs.length)
    (q : ∀ w', Ex [A.rg] w w' → Gr (v.cls c_Graph) w' A inp (regs.set i (l, (regs.getD i (0, 0)).2)) ands ods → Q .non w'.H) : spOf v D (n + 1) i_Graph_set_next [.ref A.g, .int i, .int l] w.H Q E := by
  obtain ⟨rv, org, drg⟩ := G.rg
  have lrv : rv.length = regs.length := by rw [drg.length, List.length_map]
  refine in_Graph_set_next ?_
  unfold b_Graph_set_next
  walk_at "go"
  refine k_fl G.og (by rfl) ?_
  walk_at "go"
  refine i_OM (z := ((0, 0) : Int × Int)) (g := dp) org.h drg (by omega) (by omega) fun u du => ?_
  walk_at "go"
  refine i_T1 du ?_
  walk_at "go"
  refine k_tup (by simp) (.cons (.int _) (.cons (.int _) .nil)) fun w1 x e1 d1 => ?_
  have G1 := G.ex0 e1
  walk_at "go"
  refine k_fl G1.og (by rfl) ?_
  walk_at "go"
  refine k_set_lst (j := i) (org.ex e1 (by simp)) (by unfold ixN; rw [if_pos (by omega), if_pos (by omega)]; simp) fun w2 e2 o2 => ?_
  walk_at "go"
  have gne : A.g ≠ A.rg := fun z => by have h1 := G.og.h; rw [z, org.h] at h1; cases h1
  have kne : A.kn ≠ A.rg := fun z => by have h1 := G.kn.h; rw [z, org.h] at h1; cases h1
  obtain ⟨av, oa, da⟩ := G1.an
  have ex : Ex [A.rg] w w2 := Ex.tt (e1.more (by simp) (by intro b hb; simp at hb; subst hb; exact org.n)) e2
  refine q w2 ex ⟨G1.og.set_ne e2 gne, ⟨_, o2, ?_⟩, ⟨av, oa.set_ne e2 G.ne1, da.ex e2⟩, G1.ou.set_ne e2 (Ne.symm G.ne3), ?_, G.ne1, G.ne2, G.ne3⟩
  · have key : ∀ (vs : List V) (ds : List PyData) (k : Nat) (y : V) (d : PyData), Dvs w2 vs ds → Dv w2 y d → Dvs w2 (vs.set k y) (ds.set k d) := by
      intro vs ds k y d h hy
      induction k generalizing vs ds with
      | zero => cases h with
        | nil => exact .nil
        | cons a r => exact .cons hy r
      | succ k ih => cases h with
        | nil => exact .nil
        | cons a r => exact .cons a (ih _ _ r)
    have := key rv (regs.map dp) i x (dp (l, (regs.getD i (0, 0)).2)) ((drg.ex e1).ex e2) (d1.ex e2)
    rw [← List.map_set] at this
    exact this
  · rw [List.length_set]
    exact G1.kn.set_ne e2 kne
theorem setouts_spec {v : Ev} {n : Nat} {w : Wd} {A : GA} {inp : Int} {x : V} {regs ands : List (Int × Int)} {ods os : List Int} {Q : VK} {E : XK} (G : Gr (v.cls c_Graph) w A inp regs ands ods) (dx : Dv w x (.list (os.map .int)))
    (q : ∀ w' p, Ex [A.g] w w' → w.H p = none → Gr (v.cls c_Graph) w' { A with ou := p } inp regs ands os → Q .non w'.H) : spOf v D (n + 1) i_Graph_set_outputs [.ref A.g, x] w.H Q E := by
  obtain ⟨rv, org, drg⟩ := G.rg
  obtain ⟨av, oa, da⟩ := G.an
  obtain ⟨b, rfl, sb, hb⟩ := dx.ints
  refine in_Graph_set_outputs ?_
  unfold b_Graph_set_outputs
  walk_at "go"
  refine f_lstO hb ?_
  refine new_op fun w1 p e1 hp o1 => ?_
  have G1 := G.ex0 e1
  have np := G.fresh hp
  walk_at "go"
  refine k_ft G1.og (by simp) (gs := gfs { A with ou := p } inp) (by rfl) fun w2 e2 o2 => ?_
  walk_at "go"
  have g1 : A.rg ≠ A.g := fun z => by have h1 := org.h; rw [z, G.og.h] at h1; cases h1
  have g2 : A.an ≠ A.g := fun z => by have h1 := oa.h; rw [z, G.og.h] at h1; cases h1
  have g3 : A.kn ≠ A.g := fun z => by have h1 := G.kn.h; rw [z, G.og.h] at h1; cases h1
  have g4 : p ≠ A.g := Ne.symm (G.og.ne hp)
  have ex : Ex [A.g] w w2 := Ex.tt (e1.more (by simp) (by intro b hb; simp at hb; subst hb; exact G.og.n)) e2
  exact q w2 p ex hp ⟨o2, ⟨rv, (org.ex e1 (by simp)).set_ne e2 g1, (drg.ex e1).ex e2⟩, ⟨av, (oa.ex e1 (by simp)).set_ne e2 g2, (da.ex e1).ex e2⟩, o1.set_ne e2 g4, G1.kn.set_ne e2 g3, G.ne1, oa.ne hp, org.ne hp⟩
/-- the registers of a machine: their next literals are nodes, their first bits bits -/
def Regs (f : Int) (ands : List (Int × Int)) (regs : List (Int × Int)) : Prop := ∀ p ∈ regs, (0 ≤ p.1 ∧ p.1 < 2 * (f + ands.length)) ∧ (p.2 = 0 ∨ p.2 = 1)
theorem regs0_ok {inp : Int} {bs : List Int} (hb : Bs bs) (hi : 0 ≤ inp) {f : Int} (hf : f = 1 + inp + bs.length) : ∀ k, k ≤ bs.length → Regs f [] (regs0 inp bs k)
  | 0, _ => fun p h => by simp [regs0] at h
  | k + 1, h => fun p hp => by
    rcases List.mem_append.mp hp with hp | hp
    · exact regs0_ok hb hi hf k (by omega) p hp
    · simp only [List.mem_singleton] at hp
      subst hp
      exact ⟨⟨by simp only; omega, by simp only [List.length_nil]; omega⟩, hb.get k⟩
theorem Regs.more {f : Int} {ands t regs : List (Int × Int)} (h : Regs f ands regs) : Regs f (ands ++ t) regs := fun p hp => by
  have := h p hp
  exact ⟨⟨this.1.1, by rw [List.length_append]; omega⟩, this.2⟩
theorem machine_spec {v : Ev} {n : Nat} {w : Wd} {s c : Addr} {inp outs most : Int} {Q : VK} {E : XK} (hg : v.gv g_max_nodes = .int 4000) (g : Gen w s c) (hi0 : 0 ≤ inp) (hi1 : inp < 100) (ho0 : 0 ≤ outs) (ho1 : outs < 1000) (hm0 : 0 < most) (hm1 : most < 900)
    (q : ∀ w' A regs ands ods, Ex [s, c] w w' → (∀ b, A.has b → w.H b = none) → Gen w' s c → Gr (v.cls c_Graph) w' A inp regs ands ods → WFg (1 + inp + regs.length) ands → Regs (1 + inp + regs.length) ands regs → Lits (1 + inp + regs.length) ands ods → regs.length ≤ 3 → (ands.length : Int) ≤ 3 * most → (ods.length : Int) = outs → ¬ A.has s → ¬ A.has c → Q (.ref A.g) w'.H) :
    spOf v D (n + 7) i_law_machine [.ref s, .int inp, .int outs, .int most] w.H Q E := by
  refine in_law_machine ?_
  unfold b_law_machine
  walk_at "go"
  refine take_spec g (by decide) (by decide) fun w1 t e1 g1 t0 t1 => ?_
  walk_at "go"
  refine bits_spec g1 t0 (by omega) fun w2 xB bs e2 g2 hlb bb db => ?_
  walk_at "go"
  refine k_mk fun w7 gA dxA e7 hgA og => ?_
  have g7 := g2.ex0 e7
  have sg := g2.fs hgA
  have cg := g2.fc hgA
  refine init_spec hg og (db.ex e7) (by omega) (by omega) fun w8 A eA e8 G8 fr8 => ?_
  subst eA
  refine ⟨rfl, ?_⟩
  have ns : ¬ A.has s := by obtain ⟨i, cs, h1, h2, _⟩ := g7.g; exact fr8 s _ h1.h sg
  have nc : ¬ A.has c := by obtain ⟨i, cs, h1, h2, _⟩ := g7.g; exact fr8 c _ h2.h cg
  have g8 := g7.ex e8 (by simpa using sg) (by simpa using cg)
  have db8 := (db.ex e7).ex e8
  have E2 := e1.tt e2
  have frA0 : w.H A.g = none := E2.free hgA
  have E8 : Ex [s, c] w w8 := (E2.t0 e7).tf e8 frA0
  have frA : ∀ b, A.has b → w.H b = none := fun b hb => by
    by_cases e : b = A.g
    · rw [e]; exact frA0
    · cases q : w.H b with
      | none => rfl
      | some o => obtain ⟨o', h'⟩ := (E2.t0 e7).al b o q; exact absurd hb (fr8 b o' h' e)
  have lregs : (regs0 inp bs bs.length).length = bs.length := regs0_len _ _ _
  have rok := regs0_ok bb hi0 (f := 1 + inp + ((regs0 inp bs bs.length).length : Int)) (by rw [lregs]) bs.length (Nat.le_refl _)
  generalize regs0 inp bs bs.length = regs at G8 lregs rok
  have nsc : ∀ b ∈ [s, c], ¬ A.has b := by
    intro b hb
    simp only [List.mem_cons, List.not_mem_nil, or_false] at hb
    rcases hb with rfl | rfl
    · exact ns
    · exact nc
  walk_at "go"
  refine f_lenL db8 ?_
  walk_at "go"
  rw [List.length_map]
  refine k_r1 (by omega) (by omega) ?_
  refine k_lc_n (1 + inp + bs.length).toNat (by simp) fun w11 kl e11 hkl o11 => ⟨fun i w' => Ex [] w8 w' ∧ ∃ ls : List Int, Op w' kl (.lst (ls.map V.int)) ∧ ls.length = i ∧ Lits (1 + inp + regs.length) [] ls, ?_, ?_, ?_⟩
  · exact ⟨e11, [], o11, rfl, fun l h => by simp at h⟩
  · rintro i w' hi ⟨E', ls, o', hll, hls⟩
    refine g_nm ?_
    refine k_lb0 rfl ?_
    walk_at "go"
    refine o_mul (.inl ⟨by decide, by decide⟩) ?_
    refine k_ap o' (by rw [List.length_map, sizeLine_eq]; omega) fun w'' e'' o'' => ?_
    refine ⟨E'.tf e'' hkl, ls ++ [2 * (i : Int)], by simpa using o'', by simp [hll], ?_⟩
    intro l hl'
    rcases List.mem_append.mp hl' with h | h
    · exact hls l h
    · simp only [List.mem_singleton] at h
      subst h
      exact ⟨by omega, by simp only [List.length_nil]; omega⟩
  rintro w12 ⟨E12, ls, o12, hll, hls⟩
  have frk : w.H kl = none := E8.free hkl
  have ks : kl ≠ s := Ne.symm (g8.fs hkl)
  have kc : kl ≠ c := Ne.symm (g8.fc hkl)
  have nk := G8.fresh hkl
  have g12 := g8.ex0 E12
  have G12 := G8.ex0 E12
  walk_at "go"
  refine take_spec g12 hm0 (by omega) fun w13 m e13 g13 m0 m1 => ?_
  walk_at "go"
  refine grow_spec hg g13 (G12.ex e13 nsc) ⟨fun k p h => by simp at h, List.nodup_nil⟩ (by omega) (o12.ex e13 (by simp [ks, kc])) hls (by omega) (by omega) (by omega) (by omega) (by simp only [List.length_nil]; omega) ns nc nk ks kc fun w14 ands ls2 e14 g14 G14 W _ hla o14 hll2 hls2 => ?_
  simp only [List.length_nil] at hla
  have E14 : Ex [s, c] w w14 := ((E8.t0 E12).tt e13).trans e14 (by
    intro b hb
    simp only [List.mem_cons, List.not_mem_nil, or_false] at hb
    rcases hb with rfl | rfl | rfl | rfl | rfl
    · exact .inl (by simp)
    · exact .inl (by simp)
    · exact .inr (frA _ (.inr (.inr (.inl rfl))))
    · exact .inr (frA _ (.inr (.inr (.inr (.inr rfl)))))
    · exact .inr frk)
  have rok14 : Regs (1 + inp + regs.length) ands regs := by have := rok.more (t := ands); simpa using this
  have db14 := ((db8.ex E12).ex e13).ex e14
  walk_at "go"
  refine f_lenL db14 ?_
  walk_at "go"
  rw [List.length_map]
  refine k_r1 (by omega) (by omega) ?_
  refine k_for_n bs.length (by simp) (fun i σ w' => ∃ a7 regs', σ = [some (.ref s), some (.int inp), some (.int outs), some (.int most), some xB, some (.ref A.g), some (.ref kl), a7] ∧ Ex [s, c] w w' ∧ Gen w' s c ∧ Gr (v.cls c_Graph) w' A inp regs' ands [] ∧ Op w' kl (.lst (ls2.map V.int)) ∧ regs'.length = regs.length ∧ Regs (1 + inp + regs.length) ands regs') ?_ ?_ ?_
  · exact ⟨_, regs, rfl, E14, g14, G14, o14, rfl, rok14⟩
  · rintro i σ w' hi ⟨a7, regs', rfl, E', g', G', o', hlr, hr⟩
    walk_at "go"
    refine k_me G'.og (by rfl) ?_
    walk_at "go"
    refine f_lenO o'.h ?_
    walk_at "go"
    refine f_lenO o'.h ?_
    walk_at "go"
    rw [List.length_map]
    refine take_spec g' (by omega) (by omega) fun w15 u e15 g15 u0 u1 => ?_
    have o15 := o'.ex e15 (by simp [ks, kc])
    walk_at "go"
    refine i_OG o15.h (by omega) (by omega) ?_
    walk_at "go"
    refine take_spec g15 (by decide) (by decide) fun w16 r e16 g16 r0 r1 => ?_
    have o16 := o15.ex e16 (by simp [ks, kc])
    have hl := hls2.get (k := ((ls2.length : Int) - 1 - u).toNat) (by omega)
    have hx := xor_rng hl.1 r0 r1 hl.2
    walk_at "go"
    have G16 := (G'.ex e15 nsc).ex e16 nsc
    have nrs : ∀ b : Addr, ¬ A.has b → b ∉ [A.rg] := fun b h => by simp only [List.mem_singleton]; exact fun z => h (.inr (.inl z))
    refine setnext_spec G16 (by omega) fun w17 e17 G17 => ?_
    walk_at "go"
    refine k_is ⟨_, _, rfl, ((E'.tt e15).tt e16).tf e17 (frA _ (.inr (.inl rfl))), g16.ex e17 (nrs _ ns) (nrs _ nc), G17, o16.ex e17 (nrs _ nk), by rw [List.length_set, hlr], ?_⟩
    intro p hp
    rcases List.mem_or_eq_of_mem_set hp with hp | hp
    · exact hr p hp
    · subst hp
      refine ⟨hx, ?_⟩
      have hm : regs'.getD i (0, 0) ∈ regs' := by
        rw [List.getD_eq_getElem?_getD, List.getElem?_eq_getElem (by omega)]
        exact List.getElem_mem _
      exact (hr _ hm).2
  · rintro σ w15 ⟨a7, regs', rfl, E15, g15, G15, o15, hlr, hr⟩
    walk_at "go"
    refine k_me G15.og (by rfl) ?_
    walk_at "go"
    refine k_r1 (by omega) (by omega) ?_
    refine k_lc_n outs.toNat rfl fun w16 po e16 hpo o16 => ⟨fun i w' => Ex [s, c] w w' ∧ Gen w' s c ∧ Gr (v.cls c_Graph) w' A inp regs' ands [] ∧ Op w' kl (.lst (ls2.map V.int)) ∧ ∃ os : List Int, Op w' po (.lst (os.map V.int)) ∧ os.length = i ∧ Lits (1 + inp + regs.length) ands os, ?_, ?_, ?_⟩
    · exact ⟨E15.t0 e16, g15.ex0 e16, G15.ex0 e16, o15.ex e16 (by simp), [], o16, rfl, fun l h => by simp at h⟩
    · rintro i w' hi ⟨E', g', G', o', os, oo, hlo, hos⟩
      have ps := g15.fs hpo
      have pc := g15.fc hpo
      have pk : kl ≠ po := o15.ne hpo
      have np := G15.fresh hpo
      refine g_nm ?_
      dsimp only [wipe, List.set_cons_zero, List.set_cons_succ]
      refine k_lb0 rfl ?_
      walk_at "go"
      refine f_lenO o'.h ?_
      walk_at "go"
      refine take_spec g' (by decide) (by decide) fun w17 u e17 g17 u0 u1 => ?_
      have o17 := o'.ex e17 (by simp [ks, kc])
      walk_at "go"
      refine f_lenO o17.h ?_
      walk_at "go"
      rw [List.length_map]
      refine o_mod (by omega) ?_
      walk_at "go"
      have hm0 : 0 ≤ u % (ls2.length : Int) := Int.emod_nonneg _ (by omega)
      have hm1 : u % (ls2.length : Int) < ls2.length := Int.emod_lt_of_pos _ (by omega)
      refine i_OG o17.h (by omega) (by omega) ?_
      walk_at "go"
      refine take_spec g17 (by decide) (by decide) fun w18 r e18 g18 r0 r1 => ?_
      walk_at "go"
      have hl := hls2.get (k := ((ls2.length : Int) - 1 - u % (ls2.length : Int)).toNat) (by omega)
      have hx := xor_rng hl.1 r0 r1 hl.2
      have oo18 := (oo.ex e17 (by simp [Ne.symm ps, Ne.symm pc])).ex e18 (by simp [Ne.symm ps, Ne.symm pc])
      refine k_ap oo18 (by rw [List.length_map, sizeLine_eq]; omega) fun w19 e19 o19 => ⟨((E'.tt e17).tt e18).tf e19 (E15.free hpo), g18.ex e19 (by simpa using ps) (by simpa using pc), ((G'.ex e17 nsc).ex e18 nsc).ex e19 (by simpa using np), (o17.ex e18 (by simp [ks, kc])).set_ne e19 pk, os ++ [_], by simpa using o19, by simp [hlo], ?_⟩
      intro l hl'
      rcases List.mem_append.mp hl' with h | h
      · exact hos l h
      · simp only [List.mem_singleton] at h
        rw [h]; exact hx
    · rintro w17 ⟨E17, g17, G17, o17, os, oo, hlo, hos⟩
      obtain ⟨w18, eh, e18, d18⟩ := seal_lst oo (Dvs.ints os)
      rw [← eh]
      have ps := g15.fs hpo
      have pc := g15.fc hpo
      have np := G15.fresh hpo
      have g18 := g17.ex e18 (by simpa using ps) (by simpa using pc)
      have G18 := G17.ex e18 (by simpa using np)
      walk_at "go"
      have sA : s ≠ A.g := fun z => ns (.inl z)
      have cA : c ≠ A.g := fun z => nc (.inl z)
      refine setouts_spec G18 d18 fun w19 p e19 hp G19 => ?_
      walk_at "go"
      have hsp := g18.fs hp
      have hcp := g18.fc hp
      have E18 : Ex [s, c] w w18 := E17.tf e18 (E15.free hpo)
      have frp : w.H p = none := E18.free hp
      refine q w19 { A with ou := p } regs' ands os (E18.tf e19 frA0) (fun b hb => ?_) (g18.ex e19 (by simpa using sA) (by simpa using cA)) G19 (by rw [hlr]; exact W) (by rw [hlr]; exact hr) (by rw [hlr]; exact hos) (by omega) (by omega) (by omega) ?_ ?_
      · rcases hb with h | h | h | h | h
        · exact frA b (.inl h)
        · exact frA b (.inr (.inl h))
        · exact frA b (.inr (.inr (.inl h)))
        · rw [show b = p from h]; exact frp
        · exact frA b (.inr (.inr (.inr (.inr h))))
      · rintro (h | h | h | h | h)
        · exact ns (.inl h)
        · exact ns (.inr (.inl h))
        · exact ns (.inr (.inr (.inl h)))
        · exact hsp h
        · exact ns (.inr (.inr (.inr (.inr h))))
      · rintro (h | h | h | h | h)
        · exact nc (.inl h)
        · exact nc (.inr (.inl h))
        · exact nc (.inr (.inr (.inl h)))
        · exact hcp h
        · exact nc (.inr (.inr (.inr (.inr h))))
theorem g_DD {v : Ev} {W : WX} {σ : St} {w : Wd} {x : V} {d e : PyData} {g1 g2 : Tg} {P : St → Hp → Prop} (hx : Dv w x (.tuple [d, e])) (h : ∀ y z, Dv w y d → Dv w z e → KTs v (.cons g1 (.cons g2 .nil)) W P [y, z] σ w.H) : Tg.den v (.tup (.cons g1 (.cons g2 .nil))) W x σ w.H P :=
  g_tup hx rfl fun xs r => by
    cases r with
    | cons a r => cases r with
      | cons b r => cases r; exact h _ _ a b
abbrev ids (xs : List Int) : PyData := .list (xs.map .int)
def firsts (regs : List (Int × Int)) : List Int := regs.map (·.2)
/-- a comprehension that reads an open list of pairs, one int an item -/
theorem lc_pairs {K : PySem.W.Frag} {w : Wd} {σ : St} {g : TG} {te : TE} {own : List Nat} {v : Ev} {W' : WX} {a : Addr} {vs : List V} {ps : List (Int × Int)} {Q : VK} (f : Int × Int → Int) (ha : w.H a = some (.lst vs)) (dv : Dvs w vs (ps.map dp)) (hl : ps.length < 100000)
    (hs : ∀ p x w' D P, p ∈ ps → Ex [] w w' → Dv w' x (dp p) → (∀ y, y = V.int (f p) → KAp D P y w'.H) → g x (wipe σ own) w'.H (KLb (Tto.den v .no W') te own σ D P))
    (q : ∀ w' z, Ex [] w w' → Dv w' z (ids (ps.map f)) → Q z w'.H) : KLc g (Tto.den v .no W') te own σ Q (Itl K a) w.H := by
  have lv : vs.length = ps.length := by rw [dv.length, List.length_map]
  refine k_lc_lst (xs := vs) fun w1 D e1 hD o1 => ⟨fun i w' => Ex [] w w' ∧ Op w' D (.lst (((ps.take i).map f).map V.int)), ⟨e1, o1⟩, fun i w' h => sqL (h.1.kp _ _ ha (by simp)), ?_, ?_⟩
  · rintro i x w' hx ⟨E', o'⟩
    obtain ⟨d, hd, dx⟩ := dv.get' hx
    rw [List.getElem?_map] at hd
    obtain ⟨p, hp, rfl⟩ := Option.map_eq_some_iff.mp hd
    have hi : i < ps.length := by
      rcases Nat.lt_or_ge i ps.length with h | h
      · exact h
      · rw [List.getElem?_eq_none h] at hp; cases hp
    refine hs p x w' D _ (List.mem_of_getElem? hp) E' (dx.ex E') fun y hy => ?_
    subst hy
    refine k_ap o' (by rw [List.length_map, List.length_map, List.length_take, sizeLine_eq]; omega) fun w2 e2 o2 => ⟨E'.tf e2 hD, ?_⟩
    rw [List.take_add_one, hp]
    simpa using o2
  · rintro w' ⟨E', o'⟩
    rw [lv, List.take_length] at o'
    obtain ⟨w2, eh, e2, d2⟩ := seal_lst o' (Dvs.ints _)
    rw [← eh]
    exact q w2 _ (E'.tf e2 hD) d2
theorem lc_ints {K : PySem.W.Frag} {w : Wd} {σ : St} {g : TG} {te : TE} {own : List Nat} {v : Ev} {W' : WX} {a : Addr} {ps : List Int} {Q : VK} (f : Int → Int) (ha : w.H a = some (.lst (ps.map V.int))) (hl : ps.length < 100000)
    (hs : ∀ p w' D P, p ∈ ps → Ex [] w w' → (∀ y, y = V.int (f p) → KAp D P y w'.H) → g (.int p) (wipe σ own) w'.H (KLb (Tto.den v .no W') te own σ D P))
    (q : ∀ w' z, Ex [] w w' → Dv w' z (ids (ps.map f)) → Q z w'.H) : KLc g (Tto.den v .no W') te own σ Q (Itl K a) w.H := by
  refine k_lc_lst (xs := ps.map V.int) fun w1 D e1 hD o1 => ⟨fun i w' => Ex [] w w' ∧ Op w' D (.lst (((ps.take i).map f).map V.int)), ⟨e1, o1⟩, fun i w' h => sqL (h.1.kp _ _ ha (by simp)), ?_, ?_⟩
  · rintro i x w' hx ⟨E', o'⟩
    rw [List.getElem?_map] at hx
    obtain ⟨p, hp, rfl⟩ := Option.map_eq_some_iff.mp hx
    have hi : i < ps.length := by
      rcases Nat.lt_or_ge i ps.length with h | h
      · exact h
      · rw [List.getElem?_eq_none h] at hp; cases hp
    refine hs p w' D _ (List.mem_of_getElem? hp) E' fun y hy => ?_
    subst hy
    refine k_ap o' (by rw [List.length_map, List.length_map, List.length_take, sizeLine_eq]; omega) fun w2 e2 o2 => ⟨E'.tf e2 hD, ?_⟩
    rw [List.take_add_one, hp]
    simpa using o2
  · rintro w' ⟨E', o'⟩
    rw [List.length_map, List.take_length] at o'
    obtain ⟨w2, eh, e2, d2⟩ := seal_lst o' (Dvs.ints _)
    rw [← eh]
    exact q w2 _ (E'.tf e2 hD) d2
section
variable {v : Ev} {n : Nat} {w : Wd} {A : GA} {inp : Int} {regs ands : List (Int × Int)} {ods : List Int} {Q : VK} {E : XK}
theorem inits_spec (G : Gr (v.cls c_Graph) w A inp regs ands ods) (hl : regs.length < 1000) (q : ∀ w' z, Ex [] w w' → Dv w' z (ids (firsts regs)) → Q z w'.H) : spOf v D (n + 1) i_initial_state [.ref A.g] w.H Q E := by
  obtain ⟨rv, org, drg⟩ := G.rg
  refine in_initial_state ?_
  unfold b_initial_state
  walk_at "go"
  refine k_fl G.og (by rfl) ?_
  refine k_ls org.h ?_
  refine lc_pairs (fun p => p.2) org.h drg (by omega) (fun p x w' D P hp E' dx hk => ?_) q
  refine g_ii dx ?_
  dsimp only [wipe, List.set_cons_zero, List.set_cons_succ]
  walk_at "go"
  refine k_lb0 rfl ?_
  walk_at "go"
  exact hk _ rfl
/-- the step of a machine -/
def stepO (V : List Int) (ods : List Int) : List Int := ods.map (lv V)
def stepA (V : List Int) (regs : List (Int × Int)) : List Int := regs.map fun p => lv V p.1
abbrev stepD (V : List Int) (ods : List Int) (regs : List (Int × Int)) : PyData := .tuple [ids (stepO V ods), ids (stepA V regs)]
end
/-- a good start for the nodes -/
structure Base (f : Int) (base : List Int) : Prop where
  l : (base.length : Int) = f
  b : Bs base
  z : base.getD 0 0 = 0
theorem lv_c0 {base : List Int} {f : Int} {ands : List (Int × Int)} (B : LK.Base f base) (hf : 1 ≤ f) : lv (vals base ands) 0 = 0 := by
  have := B.l
  have z := lv0 (base := base) (ands := ands) (by omega) B.z
  unfold lv; rw [if_neg (by decide)]; exact z
theorem lv_c1 {base : List Int} {f : Int} {ands : List (Int × Int)} (B : LK.Base f base) (hf : 1 ≤ f) : lv (vals base ands) 1 = 1 := by
  have := B.l
  have z := lv0 (base := base) (ands := ands) (by omega) B.z
  unfold lv; rw [if_pos (by decide)]
  have e : ((1 : Int) / 2).toNat = 0 := by decide
  rw [e, z]; rfl
/-- the run of a machine: the outputs of each cycle, from a state on -/
def runO (ods : List Int) (regs ands : List (Int × Int)) : List Int → List (List Int) → List Int → List (List Int)
  | _, [], _ => []
  | _, _, [] => []
  | st, r :: rs, z :: zs => stepO (vals ([0] ++ r ++ st) ands) ods :: runO ods regs ands (if z = 1 then firsts regs else stepA (vals ([0] ++ r ++ st) ands) regs) rs zs
theorem runO_cons (ods : List Int) (regs ands : List (Int × Int)) (st r : List Int) (rs : List (List Int)) (z : Int) (zs : List Int) : runO ods regs ands st (r :: rs) (z :: zs) = stepO (vals ([0] ++ r ++ st) ands) ods :: runO ods regs ands (if z = 1 then firsts regs else stepA (vals ([0] ++ r ++ st) ands) regs) rs zs := rfl
/-- rows of a machine's inputs -/
def Rows (m : Nat) (rows : List (List Int)) : Prop := ∀ r ∈ rows, r.length = m ∧ Bs r
theorem base_bits {row st : List Int} (br : Bs row) (bs : Bs st) : Bs ([0] ++ row ++ st) := by
  intro x hx
  rcases List.mem_append.mp hx with hx | hx
  · rcases List.mem_append.mp hx with hx | hx
    · simp at hx; exact .inl hx
    · exact br x hx
  · exact bs x hx
theorem stepA_bits {V : List Int} (h : Bs V) (regs : List (Int × Int)) : Bs (stepA V regs) := by
  intro x hx
  obtain ⟨p, _, rfl⟩ := List.mem_map.mp hx
  exact h.lv _
theorem firsts_bits {f : Int} {ands regs : List (Int × Int)} (h : Regs f ands regs) : Bs (firsts regs) := by
  intro x hx
  obtain ⟨p, hp, rfl⟩ := List.mem_map.mp hx
  exact (h p hp).2
theorem map_getD {f : Int → Int} {l : List Int} {k : Nat} (h : k < l.length) : (l.map f).getD k 0 = f (l.getD k 0) := by
  rw [List.getD_eq_getElem?_getD, List.getElem?_map, List.getD_eq_getElem?_getD, List.getElem?_eq_getElem h]; rfl
theorem g_dp' {v : Ev} {w : Wd} {x : V} {p : Int × Int} {g1 g2 : Tg} {W : WX} {σ : St} {P : St → Hp → Prop} (hx : Dv w x (dp p)) (h : KTs v (.cons g1 (.cons g2 .nil)) W P [.int p.1, .int p.2] σ w.H) : Tg.den v (.tup (.cons g1 (.cons g2 .nil))) W x σ w.H P := g_ii hx h
theorem app_inj_iff {α : Type} {a b : List α} {x y : List α} (h : a.length = b.length) : (a ++ x = b ++ y) ↔ (a = b ∧ x = y) := ⟨fun e => List.append_inj e h, fun ⟨e1, e2⟩ => by rw [e1, e2]⟩
/-! ### copies of graphs -/
def trn (L : List Int) (l : Int) : Int := Builtin.bitXor (L.getD (l / 2).toNat 0) (l % 2)
theorem trn_lv {V VS L : List Int} {l : Int} (hl : 0 ≤ L.getD (l / 2).toNat 0) (h : VS.getD (l / 2).toNat 0 = lv V (L.getD (l / 2).toNat 0)) : lv V (trn L l) = lv VS l := by
  unfold trn
  rw [xor01 hl (Int.emod_nonneg _ (by decide)) (Int.emod_lt_of_pos _ (by decide))]
  have : l % 2 = 0 ∨ l % 2 = 1 := by omega
  rcases this with e | e
  · rw [if_pos e, ← h]
    unfold lv
    rw [if_neg (by omega)]
  · rw [if_neg (by omega), lv_neg hl, ← h]
    conv => rhs; unfold lv
    rw [if_pos e]
theorem trn_rng {f : Int} {ands : List (Int × Int)} {L : List Int} {l : Int} (h : Lits f ands L) (hl : (l / 2).toNat < L.length) : 0 ≤ trn L l ∧ trn L l < 2 * (f + ands.length) := by
  have := h.get hl
  exact xor_rng this.1 (Int.emod_nonneg _ (by decide)) (Int.emod_lt_of_pos _ (by decide)) this.2
theorem lv_map_ext {base : List Int} {f : Int} {ands t : List (Int × Int)} {ls : List Int} (hb : (base.length : Int) = f) (h : Lits f ands ls) : ls.map (lv (vals base (ands ++ t))) = ls.map (lv (vals base ands)) := by
  refine List.map_congr_left fun l hl => ?_
  have := h l hl
  exact lv_ext this.1 (by omega)
/-! ### pairs of graphs, drawn -/
/-- a graph that stands, with all that the laws need of it -/
structure MG (v : Ev) (w : Wd) (A : GA) (inp : Int) (regs ands : List (Int × Int)) (ods : List Int) (s c : Addr) : Prop where
  G : Gr (v.cls c_Graph) w A inp regs ands ods
  W : WFg (1 + inp + regs.length) ands
  R : Regs (1 + inp + regs.length) ands regs
  L : Lits (1 + inp + regs.length) ands ods
  ns : ¬ A.has s
  nc : ¬ A.has c
theorem MG.ex {v : Ev} {T : List Addr} {w w' : Wd} {A : GA} {inp : Int} {regs ands : List (Int × Int)} {ods : List Int} {s c : Addr} (e : Ex T w w') (M : MG v w A inp regs ands ods s c) (h : ∀ b ∈ T, ¬ A.has b) : MG v w' A inp regs ands ods s c :=
  ⟨M.G.ex e h, M.W, M.R, M.L, M.ns, M.nc⟩
theorem MG.sc {v : Ev} {w : Wd} {A : GA} {inp : Int} {regs ands : List (Int × Int)} {ods : List Int} {s c : Addr} (M : MG v w A inp regs ands ods s c) : ∀ b ∈ [s, c], ¬ A.has b := by
  intro b hb
  simp only [List.mem_cons, List.not_mem_nil, or_false] at hb
  rcases hb with rfl | rfl
  · exact M.ns
  · exact M.nc
theorem xor_bits {a b : Int} (ha : a = 0 ∨ a = 1) (hb : b = 0 ∨ b = 1) : Builtin.bitXor a b = 0 ∨ Builtin.bitXor a b = 1 := by
  rcases ha with rfl | rfl <;> rcases hb with rfl | rfl <;> decide
theorem getD_memP {ls : List (Int × Int)} {k : Nat} (h : k < ls.length) : ls.getD k (0, 0) ∈ ls := by
  rw [List.getD_eq_getElem?_getD, List.getElem?_eq_getElem h]; exact List.getElem_mem _
/-! ### ints in a list -/
theorem inV_ints {t : Int} {xs : List Int} : inV (.int t) (xs.map V.int) = decide (t ∈ xs) := by
  induction xs with
  | nil => simp [inV]
  | cons x r ih =>
    have e : inV (.int t) ((x :: r).map V.int) = (eqV (.int x) (.int t) || inV (.int t) (r.map V.int)) := rfl
    rw [e, ih]
    have q : eqV (.int x) (.int t) = decide (x = t) := rfl
    rw [q]
    by_cases h : x = t
    · subst h; simp
    · have h' : ¬ t = x := fun z => h z.symm
      simp [h, h']
theorem flat_ints (xs : List Int) : (xs.map V.int).all flatV = true := by
  rw [List.all_eq_true]
  intro x hx
  obtain ⟨i, _, rfl⟩ := List.mem_map.mp hx
  rfl

/-! ### rows: lists or tuples -/
def rw_ : Bool → List PyData → PyData
  | true, ds => .tuple ds
  | false, ds => .list ds
abbrev rwi (p : Bool × List Int) : PyData := rw_ p.1 (p.2.map .int)
section
variable {v : Ev} {W : WX} {σ : St} {nx bk ct : St → Hp → Prop} {rt : VK} {w : Wd} {x : V} {b : Bool} {ds : List PyData} {Q : VK} {K : PySem.W.Frag}
theorem q_anyL {a b : Sq} {H : Hp} {R : It → Hp → Prop} (h : a.den v W σ H R) : Sq.den v (.any a b) W σ H R := .inl h
theorem q_anyR {a b : Sq} {H : Hp} {R : It → Hp → Prop} (h : b.den v W σ H R) : Sq.den v (.any a b) W σ H R := .inr h
theorem for_row {g : Tg} {bd : Sms} {i : Nat} (hσ : σ[i]? = some (some x)) (hx : Dv w x (rw_ b ds)) (Inv : Nat → St → Wd → Prop) (hk : ∀ i σ w', Inv i σ w' → ∃ T, Ex T w w') (h0 : Inv 0 σ w)
    (hs : ∀ i d y σ w', ds[i]? = some d → Dv w' y d → Inv i σ w' → g.den v W y σ w'.H fun σ2 H2 => bd.den v W ⟨KIs (Inv (i + 1)), rt, nx, KIs (Inv (i + 1))⟩ σ2 H2)
    (hd : ∀ σ w', Inv ds.length σ w' → nx σ w'.H) : Sm.den v (.for_ g (.any (.lst (.v i)) (.any (.tup (.v i)) (.txt (.v i)))) bd) W ⟨nx, rt, bk, ct⟩ σ w.H := by
  refine r_for ?_
  cases b with
  | true =>
    refine q_anyR (q_anyL ?_)
    refine q_tup (e_v ?_)
    rw [hσ]
    exact k_v (k_for_DT hx Inv hk h0 hs hd)
  | false =>
    refine q_anyL ?_
    refine q_lst (e_v ?_)
    rw [hσ]
    exact k_v (k_for_D hx Inv hk h0 hs hd)
theorem i_row {i : Int} {d : PyData} (hx : Dv w x (rw_ b ds)) (hi : 0 ≤ i) (hd : ds[i.toNat]? = some d) (h : ∀ y, Dv w y d → Q y w.H) : KI2 K x Q (.int i) w.H := by
  cases b with
  | true => exact i_T hx hi hd h
  | false => exact i_L hx hi hd h
theorem i_rowL {d : PyData} (hx : Dv w x (rw_ b (ds ++ [d]))) (hl : ds.length < 2 ^ 60) (h : ∀ y, Dv w y d → Q y w.H) : KI2 K x Q (.int (-1)) w.H := by
  have key : ∀ xs : List V, Dvs w xs (ds ++ [d]) → ∃ y, xs[xs.length - 1]? = some y ∧ Dv w y d ∧ 1 ≤ xs.length := fun xs r => by
    have hl := r.length
    rw [List.length_append, List.length_singleton] at hl
    obtain ⟨y, h1, h2⟩ := r.get (i := ds.length) (d := d) (by rw [List.getElem?_append_right (Nat.le_refl _), Nat.sub_self]; rfl)
    exact ⟨y, by rw [hl]; exact h1, h2, by omega⟩
  cases b with
  | true =>
    obtain ⟨a, xs, rfl, s, e, r⟩ := Dv.of_tup hx
    obtain ⟨y, h1, h2, h3⟩ := key xs r
    exact RIxR.tup (sqT e) rfl (atI_neg (by decide) (by omega) (by rw [show (-1 + (xs.length : Int)).toNat = xs.length - 1 by omega]; exact h1)) (h y h2)
  | false =>
    obtain ⟨a, xs, rfl, s, e, r⟩ := Dv.of_lst hx
    obtain ⟨y, h1, h2, h3⟩ := key xs r
    exact RIxR.lst (sqL e) rfl (atI_neg (by decide) (by omega) (by rw [show (-1 + (xs.length : Int)).toNat = xs.length - 1 by omega]; exact h1)) (h y h2)
theorem f_lenRow (hx : Dv w x (rw_ b ds)) (h : Q (.int ds.length) w.H) : KBf K .len Q [x] w.H := by
  cases b with
  | true => exact f_lenT hx h
  | false => exact f_lenL hx h
theorem c_nin_row {t : Int} {c : List Int} {P : Bool → Hp → Prop} (hx : Dv w x (rwi (b, c))) (h : P (!decide (t ∈ c)) w.H) : KC2 K .NotIn (.int t) P x w.H := by
  cases b with
  | true =>
    obtain ⟨a, xs, rfl, s, e, r⟩ := Dv.of_tup hx
    obtain rfl := r.of_ints
    refine RIn.flat (xs := c.map V.int) (.inr (sqT e)) rfl (flat_ints _) ?_
    rw [inV_ints]; exact h
  | false =>
    obtain ⟨a, xs, rfl, s, e, r⟩ := Dv.of_lst hx
    obtain rfl := r.of_ints
    refine RIn.flat (xs := c.map V.int) (.inl (sqL e)) rfl (flat_ints _) ?_
    rw [inV_ints]; exact h
end
/-! ### the forms of steps -/
def rowOf : PyData → Option (Bool × List PyData)
  | .list ds => some (false, ds)
  | .tuple ds => some (true, ds)
  | _ => none
theorem rowOf_some {d : PyData} {p : Bool × List PyData} (h : rowOf d = some p) : d = rw_ p.1 p.2 := by
  unfold rowOf at h
  split at h
  · cases h; rfl
  · cases h; rfl
  · cases h
def isIntD : PyData → Bool
  | .int _ => true
  | _ => false
def toI : PyData → Int
  | .int i => i
  | _ => 0
def intsOf (d : PyData) : Option (Bool × List Int) :=
  match rowOf d with
  | some (b, ds) => if ds.all isIntD = true then some (b, ds.map toI) else none
  | none => none
theorem intsOf_some {d : PyData} {p : Bool × List Int} (h : intsOf d = some p) : d = rwi p := by
  unfold intsOf at h
  split at h
  · rename_i b ds e
    split at h
    · rename_i ha
      cases h
      rw [rowOf_some e]
      show rw_ b ds = rw_ b ((ds.map toI).map .int)
      congr 1
      rw [List.map_map]
      conv => lhs; rw [← List.map_id ds]
      refine List.map_congr_left fun z hz => ?_
      have := List.all_eq_true.mp ha z hz
      cases z <;> first | rfl | cases this
    · cases h
  · cases h
theorem intsOf_rwi (p : Bool × List Int) : intsOf (rwi p) = some p := by
  obtain ⟨b, c⟩ := p
  have h1 : (c.map PyData.int).all isIntD = true := by
    rw [List.all_eq_true]
    intro d hd
    obtain ⟨i, _, rfl⟩ := List.mem_map.mp hd
    rfl
  have h2 : (c.map PyData.int).map toI = c := by rw [List.map_map]; exact List.map_id c
  cases b <;> (unfold intsOf rwi rw_ rowOf; simp only [h1, if_pos, h2])
def kindN : PyData → String
  | .none => "NoneType"
  | .bool _ => "bool"
  | .int _ => "int"
  | .str _ => "str"
  | .list _ => "list"
  | .tuple _ => "tuple"
  | _ => "dict"
theorem ty_of {w : Wd} {K : PySem.W.Frag} {x : V} {d : PyData} {Q : VK} (hx : Dv w x d) (b : String) (r : Bool) (e : kitB (kindN d) b = some r) (h : Q (.bl r) w.H) : KBf K .isi Q [x, .ty b] w.H := by
  cases hx with
  | non => exact f_isi (.ty _) (.base (.non)) (kit_ty e) h
  | bl b => exact f_isiB e h
  | int i => exact f_isiI e h
  | str s => exact f_isiS e h
  | lst s a r => exact f_isiL (.lst s a r) e h
  | tup s a r => exact f_isiT (.tup s a r) e h
  | dic s a r => exact f_isiD (.dic s a r) e h
section
variable {v : Ev} {n N : Nat} {w : Wd} {x : V} {Q : VK} {E : XK}
theorem isint_spec {d : PyData} (hx : Dv w x d) (q : Q (.bl (isIntD d)) w.H) : spOf v D (N + 1) i_is_integer [x] w.H Q E := by
  refine in_is_integer ?_
  unfold b_is_integer
  walk_at "g5"
  cases hx with
  | non =>
    refine ty_of .non "int" false rfl ?_
    walk_at "g5"
    exact q
  | bl b =>
    refine ty_of (.bl b) "int" true rfl ?_
    walk_at "g5"
    refine ty_of (.bl b) "bool" true rfl ?_
    walk_at "g5"
    exact q
  | int i =>
    refine ty_of (.int i) "int" true rfl ?_
    walk_at "g5"
    refine ty_of (.int i) "bool" false rfl ?_
    walk_at "g5"
    exact q
  | str s =>
    refine ty_of (.str s) "int" false rfl ?_
    walk_at "g5"
    exact q
  | lst s a r =>
    refine ty_of (.lst s a r) "int" false rfl ?_
    walk_at "g5"
    exact q
  | tup s a r =>
    refine ty_of (.tup s a r) "int" false rfl ?_
    walk_at "g5"
    exact q
  | dic s a r =>
    refine ty_of (.dic s a r) "int" false rfl ?_
    walk_at "g5"
    exact q
theorem isrow_spec {d : PyData} (hx : Dv w x d) (q : Q (.bl (rowOf d).isSome) w.H) : spOf v D (N + 1) i_is_row [x] w.H Q E := by
  refine in_is_row ?_
  unfold b_is_row
  walk_at "g5"
  cases hx with
  | non =>
    refine ty_of .non "list" false rfl ?_
    walk_at "g5"
    refine ty_of .non "tuple" false rfl ?_
    exact q
  | bl b =>
    refine ty_of (.bl b) "list" false rfl ?_
    walk_at "g5"
    refine ty_of (.bl b) "tuple" false rfl ?_
    exact q
  | int i =>
    refine ty_of (.int i) "list" false rfl ?_
    walk_at "g5"
    refine ty_of (.int i) "tuple" false rfl ?_
    exact q
  | str s =>
    refine ty_of (.str s) "list" false rfl ?_
    walk_at "g5"
    refine ty_of (.str s) "tuple" false rfl ?_
    exact q
  | lst s a r =>
    refine ty_of (.lst s a r) "list" true rfl ?_
    walk_at "g5"
    exact q
  | tup s a r =>
    refine ty_of (.tup s a r) "list" false rfl ?_
    walk_at "g5"
    refine ty_of (.tup s a r) "tuple" true rfl ?_
    exact q
  | dic s a r =>
    refine ty_of (.dic s a r) "list" false rfl ?_
    walk_at "g5"
    refine ty_of (.dic s a r) "tuple" false rfl ?_
    exact q
theorem areints_spec {d : PyData} (hx : Dv w x d) (q : Q (.bl (intsOf d).isSome) w.H) : spOf v D (N + 2) i_are_integers [x] w.H Q E := by
  refine in_are_integers ?_
  unfold b_are_integers
  walk_at "g5"
  refine isrow_spec hx ?_
  walk_at "g5"
  cases hr : rowOf d with
  | none =>
    have : intsOf d = none := by unfold intsOf; rw [hr]
    rw [this] at q
    simp only [Option.isSome_none]
    walk_at "g5"
    exact q
  | some p =>
    obtain ⟨b, ds⟩ := p
    have e : d = rw_ b ds := rowOf_some hr
    subst e
    have hi : intsOf (rw_ b ds) = if ds.all isIntD = true then some (b, ds.map toI) else none := by unfold intsOf; rw [hr]
    rw [hi] at q
    simp only [Option.isSome_some]
    walk_at "g5"
    refine for_row rfl hx (fun i σ w' => w' = w ∧ (∃ a1, σ = [some x, a1]) ∧ (ds.take i).all isIntD = true) (fun i σ w' h => ⟨[], by rw [h.1]; exact Ex.refl w⟩) ⟨rfl, ⟨_, rfl⟩, by simp⟩ ?_ ?_
    · rintro i d y σ w' hd dy ⟨rfl, ⟨a1, rfl⟩, ha⟩
      have tk : ds.take (i + 1) = ds.take i ++ [d] := by rw [List.take_add_one, hd]; rfl
      walk_at "g5"
      refine isint_spec dy ?_
      walk_at "g5"
      cases hz : isIntD d with
      | true =>
        walk_at "g5"
        refine k_is ⟨rfl, ⟨_, rfl⟩, ?_⟩
        rw [tk, List.all_append, ha]
        simp [hz]
      | false =>
        walk_at "g5"
        have : ¬ ds.all isIntD = true := fun h => by
          have := List.all_eq_true.mp h d (List.mem_of_getElem? hd)
          rw [hz] at this; cases this
        rw [if_neg this] at q
        exact q
    · rintro σ w' ⟨rfl, ⟨a1, rfl⟩, ha⟩
      rw [List.take_length] at ha
      rw [if_pos ha] at q
      walk_at "g5"
      exact q
end
/-! ### classes: rows of rows of two numbers -/
abbrev cz : Int × Int := (0, 0)
abbrev rw2 (q : Bool × (Int × Int)) : PyData := rw_ q.1 [.int q.2.1, .int q.2.2]
/-- x stands for these classes, lists or tuples -/
structure Dc (w : Wd) (x : V) (cl : List (Int × Int)) : Prop where
  d : ∃ (b : Bool) (ps : List (Bool × (Int × Int))), Dv w x (rw_ b (ps.map rw2)) ∧ ps.map (·.2) = cl
structure D2 (w : Wd) (y : V) (p : Int × Int) : Prop where
  d : ∃ b : Bool, Dv w y (rw2 (b, p))
theorem Dc.ex {T : List Addr} {w w' : Wd} {x : V} {cl : List (Int × Int)} (h : Dc w x cl) (e : Ex T w w') : Dc w' x cl := by
  obtain ⟨b, ps, d, hp⟩ := h.d
  exact ⟨b, ps, d.ex e, hp⟩
theorem D2.ex {T : List Addr} {w w' : Wd} {x : V} {p : Int × Int} (h : D2 w x p) (e : Ex T w w') : D2 w' x p := by
  obtain ⟨b, d⟩ := h.d
  exact ⟨b, d.ex e⟩
section
variable {v : Ev} {W : WX} {σ : St} {w : Wd} {x : V} {cl : List (Int × Int)} {Q : VK} {K : PySem.W.Frag} {p : Int × Int}
theorem Dc.of (h : Dv w x (.list (cl.map dp))) : Dc w x cl := ⟨false, cl.map fun p => (true, p), by rw [List.map_map]; exact h, by rw [List.map_map]; exact List.map_id cl⟩
theorem f_lenC (h : Dc w x cl) (q : Q (.int ((cl.map dp).length : Nat)) w.H) : KBf K .len Q [x] w.H := by
  obtain ⟨b, ps, d, hp⟩ := h.d
  refine f_lenRow d ?_
  have : (ps.map rw2).length = (cl.map dp).length := by rw [List.length_map, List.length_map, ← hp, List.length_map]
  rw [this]; exact q
theorem i_C {i : Int} (h : Dc w x cl) (h0 : 0 ≤ i) (h1 : i < cl.length) (q : ∀ y, D2 w y (cl.getD i.toNat cz) → Q y w.H) : KI2 K x Q (.int i) w.H := by
  obtain ⟨b, ps, d, hp⟩ := h.d
  have hl : ps.length = cl.length := by rw [← hp, List.length_map]
  have hlt : i.toNat < ps.length := by omega
  refine i_row (d := rw2 ps[i.toNat]) d h0 (by rw [List.getElem?_map, List.getElem?_eq_getElem hlt]; rfl) fun y dy => q y ⟨ps[i.toNat].1, ?_⟩
  have : cl.getD i.toNat cz = ps[i.toNat].2 := by
    rw [← hp, List.getD_eq_getElem?_getD, List.getElem?_map, List.getElem?_eq_getElem hlt]; rfl
  rw [this]
  exact dy
theorem i_C0 (h : D2 w x p) (q : Q (.int p.1) w.H) : KI2 K x Q (.int 0) w.H := by
  obtain ⟨b, d⟩ := h.d
  exact i_row (d := .int p.1) d (by decide) rfl fun y dy => by rw [dy.of_int]; exact q
theorem i_C1 (h : D2 w x p) (q : Q (.int p.2) w.H) : KI2 K x Q (.int 1) w.H := by
  obtain ⟨b, d⟩ := h.d
  exact i_row (d := .int p.2) d (by decide) rfl fun y dy => by rw [dy.of_int]; exact q
theorem g_C {g1 g2 : Tg} {P : St → Hp → Prop} (hx : D2 w x p) (h : KTs v (.cons g1 (.cons g2 .nil)) W P [.int p.1, .int p.2] σ w.H) : Tg.den v (.tup (.cons g1 (.cons g2 .nil))) W x σ w.H P := by
  obtain ⟨b, d⟩ := hx.d
  cases b with
  | true =>
    refine g_tup d rfl fun xs r => ?_
    cases r with
    | cons a r =>
    cases r with
    | cons b r =>
    cases r
    obtain rfl := a.of_int
    obtain rfl := b.of_int
    exact h
  | false =>
    refine g_lst d rfl fun xs r => ?_
    cases r with
    | cons a r =>
    cases r with
    | cons b r =>
    cases r
    obtain rfl := a.of_int
    obtain rfl := b.of_int
    exact h
end
/-! ### classes of registers -/
/-- the pairs fit -/
def Cls (cl : List (Int × Int)) : Prop := ∀ i, i < cl.length → ((cl.getD i cz).2 = 0 ∨ (cl.getD i cz).2 = 1) ∧ ((cl.getD i cz).1 = -1 ∨ ((cl.getD i cz).1 = i ∧ (cl.getD i cz).2 = 0) ∨ (0 ≤ (cl.getD i cz).1 ∧ (cl.getD i cz).1 < i))
def isL (cl : List (Int × Int)) (i : Nat) : Bool := decide ((cl.getD i cz).1 = (i : Int))
def ldr (cl : List (Int × Int)) (n : Nat) : List Nat := (List.range n).filter (isL cl)
theorem filter_range (p : Nat → Bool) (i : Nat) : (List.range (i + 1)).filter p = (List.range i).filter p ++ (if p i = true then [i] else []) := by
  rw [List.range_succ, List.filter_append]
  congr 1
  by_cases h : p i = true <;> simp [h]
theorem ldr_le (cl : List (Int × Int)) {i n : Nat} (h : i ≤ n) : (ldr cl i).length ≤ (ldr cl n).length := by
  induction n with
  | zero => have : i = 0 := by omega
            subst this; exact Nat.le_refl _
  | succ n ih =>
    unfold ldr
    rw [filter_range]
    rcases Nat.lt_or_ge n i with h' | h'
    · have : i = n + 1 := by omega
      subst this
      rw [filter_range]
      exact Nat.le_refl _
    · have := ih h'
      unfold ldr at this
      rw [List.length_append]; omega
theorem ldr_lt (cl : List (Int × Int)) {i n : Nat} (h : i < n) (hl : isL cl i = true) : (ldr cl i).length < (ldr cl n).length := by
  have := ldr_le cl (show i + 1 ≤ n from h)
  have e : (ldr cl (i + 1)).length = (ldr cl i).length + 1 := by unfold ldr; rw [filter_range, if_pos hl, List.length_append]; rfl
  omega
theorem ldr_len (cl : List (Int × Int)) (n : Nat) : (ldr cl n).length ≤ n := Nat.le_trans (List.length_filter_le _ _) (by simp)
/-- what a register has by its pair -/
def clm (cl : List (Int × Int)) (L : List Int) (i : Nat) : Int := if (cl.getD i cz).1 = -1 then (cl.getD i cz).2 else Builtin.bitXor (L.getD (cl.getD i cz).1.toNat 0) (cl.getD i cz).2
def fillG (cl : List (Int × Int)) (leaf : Nat → Int) : Nat → List Int
  | 0 => []
  | i + 1 => fillG cl leaf i ++ [if isL cl i = true then leaf (ldr cl i).length else clm cl (fillG cl leaf i) i]
theorem fillG_len (cl : List (Int × Int)) (leaf : Nat → Int) : ∀ n, (fillG cl leaf n).length = n
  | 0 => rfl
  | n + 1 => by unfold fillG; rw [List.length_append, fillG_len cl leaf n]; rfl
theorem Cls.lt {cl : List (Int × Int)} (C : Cls cl) {i : Nat} (hi : i < cl.length) (h1 : isL cl i = false) (h2 : (cl.getD i cz).1 ≠ -1) : 0 ≤ (cl.getD i cz).1 ∧ (cl.getD i cz).1 < i := by
  have := (C i hi).2
  have h1 := of_decide_eq_false h1
  omega
theorem fill_lits {cl : List (Int × Int)} (C : Cls cl) {leaf : Nat → Int} {f : Int} {ands : List (Int × Int)} (hf : 1 ≤ f) : ∀ {n : Nat}, n ≤ cl.length → (∀ k, k < (ldr cl n).length → 0 ≤ leaf k ∧ leaf k < 2 * (f + ands.length)) → Lits f ands (fillG cl leaf n)
  | 0, _, _ => fun l h => by simp [fillG] at h
  | n + 1, hn, hl => by
    have ih := fill_lits C (leaf := leaf) (ands := ands) hf (n := n) (by omega) fun k hk => hl k (Nat.lt_of_lt_of_le hk (ldr_le cl (by omega)))
    intro l h
    unfold fillG at h
    rcases List.mem_append.mp h with h | h
    · exact ih l h
    · simp only [List.mem_singleton] at h
      subst h
      by_cases z : isL cl n = true
      · rw [if_pos z]; exact hl _ (ldr_lt cl (by omega) z)
      · rw [if_neg z]
        have z : isL cl n = false := by simpa using z
        have c := C n (by omega)
        unfold clm
        by_cases e : (cl.getD n cz).1 = -1
        · rw [if_pos e]; omega
        · rw [if_neg e]
          have := C.lt (by omega) z e
          have hg := ih.get (k := (cl.getD n cz).1.toNat) (by rw [fillG_len]; omega)
          exact xor_rng hg.1 (by omega) (by omega) hg.2
theorem lv_xor {V : List Int} (hV : Bs V) {l f : Int} (hl : 0 ≤ l) (hf : f = 0 ∨ f = 1) : lv V (Builtin.bitXor l f) = Builtin.bitXor (lv V l) f := by
  have h1 := hV.lv l
  rcases hf with rfl | rfl
  · rw [bitXor_zero, bitXor_zero]
  · rw [xor1 hl, lv_neg hl]
    rcases h1 with e | e <;> rw [e] <;> decide
theorem clm_lv {cl : List (Int × Int)} (C : Cls cl) {V L : List Int} (hV : Bs V) (h0 : lv V 0 = 0) (h1 : lv V 1 = 1) (hL : ∀ l ∈ L, 0 ≤ l) {i : Nat} (hi : i < cl.length) (hx : (cl.getD i cz).1 ≠ -1 → (cl.getD i cz).1.toNat < L.length) : lv V (clm cl L i) = clm cl (L.map (lv V)) i := by
  have c := C i hi
  unfold clm
  by_cases e : (cl.getD i cz).1 = -1
  · rw [if_pos e, if_pos e]
    rcases c.1 with z | z <;> rw [z] <;> assumption
  · rw [if_neg e, if_neg e]
    have hx := hx e
    have hm : L.getD (cl.getD i cz).1.toNat 0 ∈ L := by rw [List.getD_eq_getElem?_getD, List.getElem?_eq_getElem hx]; exact List.getElem_mem _
    rw [lv_xor hV (hL _ hm) c.1, map_getD hx]
theorem fill_sem {cl : List (Int × Int)} (C : Cls cl) {leaf leafB : Nat → Int} {V : List Int} (hV : Bs V) (h0 : lv V 0 = 0) (h1 : lv V 1 = 1) {f : Int} {ands : List (Int × Int)} (hf : 1 ≤ f) : ∀ {n : Nat}, n ≤ cl.length → (∀ k, k < (ldr cl n).length → (0 ≤ leaf k ∧ leaf k < 2 * (f + ands.length)) ∧ lv V (leaf k) = leafB k) → (fillG cl leaf n).map (lv V) = fillG cl leafB n
  | 0, _, _ => rfl
  | n + 1, hn, hl => by
    have ih := fill_sem C (leaf := leaf) (leafB := leafB) (ands := ands) hV h0 h1 hf (n := n) (by omega) fun k hk => hl k (Nat.lt_of_lt_of_le hk (ldr_le cl (by omega)))
    have lt := fill_lits C (leaf := leaf) (ands := ands) hf (n := n) (by omega) fun k hk => (hl k (Nat.lt_of_lt_of_le hk (ldr_le cl (by omega)))).1
    unfold fillG
    rw [List.map_append, ih]
    congr 1
    show [_] = [_]
    congr 1
    by_cases z : isL cl n = true
    · rw [if_pos z, if_pos z]; exact (hl _ (ldr_lt cl (by omega) z)).2
    · rw [if_neg z, if_neg z]
      have z : isL cl n = false := by simpa using z
      rw [clm_lv C hV h0 h1 (fun l h => (lt l h).1) (by omega) fun e => by
        have := C.lt (by omega) z e
        rw [fillG_len]; omega, ih]
/-- the claims hold of bits -/
def HB (cl : List (Int × Int)) (b : List Int) : Prop := ∀ i, i < cl.length → b.getD i 0 = clm cl b i
instance (cl : List (Int × Int)) (b : List Int) : Decidable (HB cl b) := inferInstanceAs (Decidable (∀ i, i < cl.length → _))
theorem clm_self {cl : List (Int × Int)} (C : Cls cl) {b : List Int} {i : Nat} (hi : i < cl.length) (z : isL cl i = true) : clm cl b i = b.getD i 0 := by
  have z := of_decide_eq_true z
  have c := C i hi
  unfold clm
  rw [if_neg (by omega), z, Int.toNat_natCast]
  have : (cl.getD i cz).2 = 0 := by omega
  rw [this, bitXor_zero]
def nld (cl : List (Int × Int)) (n : Nat) : List Nat := (List.range n).filter fun i => !isL cl i
abbrev cds (cl : List (Int × Int)) : PyData := .list (cl.map dp)
/-! ### right classes -/
/-- right classes: leaders lead themselves -/
def CR (cl : List (Int × Int)) : Prop := Cls cl ∧ ∀ i, i < cl.length → (cl.getD i cz).1 ≠ -1 → (cl.getD (cl.getD i cz).1.toNat cz).1 = (cl.getD i cz).1
theorem xor0 {b : Int} (h : b = 0 ∨ b = 1) : Builtin.bitXor b 0 = b := by rcases h with rfl | rfl <;> decide
theorem firsts_bs {f : Int} {ands regs : List (Int × Int)} (R : Regs f ands regs) : Bs (firsts regs) := fun y hy => by
  obtain ⟨p, hp, rfl⟩ := List.mem_map.mp hy
  exact (R p hp).2
/-! ### certify: the classes -/
def prB (cl : List (Int × Int)) (bits : List Int) (i : Nat) : Bool :=
  if (cl.getD i cz).2 ≠ 0 ∧ (cl.getD i cz).2 ≠ 1 then false else
  if (cl.getD i cz).1 = -1 then decide (bits.getD i 0 = (cl.getD i cz).2) else
  if (cl.getD i cz).1 < 0 ∨ (i : Int) < (cl.getD i cz).1 then false else
  if (cl.getD i cz).1 = i then decide ((cl.getD i cz).2 = 0) else
  if (cl.getD (cl.getD i cz).1.toNat cz).1 ≠ (cl.getD i cz).1 then false else
  decide (bits.getD i 0 = Builtin.bitXor (bits.getD (cl.getD i cz).1.toNat 0) (cl.getD i cz).2)
theorem prB_iff {cl : List (Int × Int)} {bits : List Int} (hb : Bs bits) : (∀ i, i < cl.length → prB cl bits i = true) ↔ CR cl ∧ HB cl bits := by
  have b01 : ∀ i, bits.getD i 0 = 0 ∨ bits.getD i 0 = 1 := fun i => by
    rw [List.getD_eq_getElem?_getD]
    cases e : bits[i]? with
    | none => exact .inl rfl
    | some x => exact hb x (List.mem_of_getElem? e)
  constructor
  · intro h
    have key : ∀ i, i < cl.length → (((cl.getD i cz).2 = 0 ∨ (cl.getD i cz).2 = 1) ∧ ((cl.getD i cz).1 = -1 ∨ ((cl.getD i cz).1 = i ∧ (cl.getD i cz).2 = 0) ∨ (0 ≤ (cl.getD i cz).1 ∧ (cl.getD i cz).1 < i ∧ (cl.getD (cl.getD i cz).1.toNat cz).1 = (cl.getD i cz).1))) ∧ bits.getD i 0 = clm cl bits i := by
      intro i hi
      have hp := h i hi
      unfold prB at hp
      split at hp
      · cases hp
      · rename_i hf
        have hf : (cl.getD i cz).2 = 0 ∨ (cl.getD i cz).2 = 1 := by omega
        unfold clm
        split at hp
        · rename_i h1
          rw [if_pos h1]
          exact ⟨⟨hf, .inl h1⟩, of_decide_eq_true hp⟩
        · rename_i h1
          rw [if_neg h1]
          split at hp
          · cases hp
          · rename_i h2
            split at hp
            · rename_i h3
              have h4 := of_decide_eq_true hp
              refine ⟨⟨hf, .inr (.inl ⟨h3, h4⟩)⟩, ?_⟩
              rw [h4, h3, Int.toNat_natCast, xor0 (b01 i)]
            · rename_i h3
              split at hp
              · cases hp
              · rename_i h4
                have h4 : (cl.getD (cl.getD i cz).1.toNat cz).1 = (cl.getD i cz).1 := Classical.byContradiction h4
                exact ⟨⟨hf, .inr (.inr ⟨by omega, by omega, h4⟩)⟩, of_decide_eq_true hp⟩
    refine ⟨⟨fun i hi => ?_, fun i hi hne => ?_⟩, fun i hi => (key i hi).2⟩
    · have := (key i hi).1
      refine ⟨this.1, ?_⟩
      rcases this.2 with h | h | h
      · exact .inl h
      · exact .inr (.inl h)
      · exact .inr (.inr ⟨h.1, h.2.1⟩)
    · rcases (key i hi).1.2 with h | h | h
      · exact absurd h hne
      · rw [h.1, Int.toNat_natCast, h.1]
      · exact h.2.2
  · rintro ⟨⟨C, CL⟩, hb⟩ i hi
    have c := C i hi
    have cL := CL i hi
    have hh := hb i hi
    unfold clm at hh
    unfold prB
    rw [if_neg (by omega)]
    split
    · rename_i h1
      rw [if_pos h1] at hh
      exact decide_eq_true hh
    · rename_i h1
      rw [if_neg h1] at hh
      rw [if_neg (by omega)]
      split
      · exact decide_eq_true (by omega)
      · rename_i h3
        have := cL h1
        rw [if_neg (by rw [this]; simp)]
        exact decide_eq_true hh
section
variable {v : Ev} {n : Nat} {w : Wd} {A B : GA} {inp : Int} {regs1 ands1 regs2 ands2 : List (Int × Int)} {ods1 ods2 : List Int} {cl : List (Int × Int)} {x : V} {s c : Addr} {Q : VK} {E : XK}
theorem pair_right_spec {y : V} {bits : List Int} {i : Nat} (dx : Dc w x cl) (dy : Dv w y (ids bits)) (hb : Bs bits) (hlen : bits.length = cl.length) (hi : i < cl.length) (q : Q (.bl (prB cl bits i)) w.H) : spOf v D (n + 1) i_is_pair_right [x, .int (i : Nat), y] w.H Q E := by
  refine in_is_pair_right ?_
  unfold b_is_pair_right
  walk_at "g5"
  refine i_C dx (by omega) (by omega) fun u du => ?_
  rw [Int.toNat_natCast] at du
  unfold prB at q
  generalize hp : cl.getD i cz = p at du q
  obtain ⟨l, f⟩ := p
  refine g_C du ?_
  dsimp only at q ⊢
  walk_at "g5"
  refine k_ta (fun h0 => ?_) fun h0 => ?_
  · have h0 : f ≠ 0 := by simpa using h0
    walk_at "g5"
    refine kif_n (fun h1 => ?_) fun h1 => ?_
    · rw [if_pos ⟨h0, h1⟩] at q
      walk_at "g5"
      exact q
    · subst h1
      rw [if_neg (by decide)] at q
      walk_at "g5"
      refine kif_d (fun h2 => ?_) fun h2 => ?_
      · rw [if_pos h2] at q
        walk_at "g5"
        refine i_G dy (by omega) (by omega) ?_
        rw [Int.toNat_natCast]
        walk_at "g5"
        exact q
      · rw [if_neg h2] at q
        walk_at "g5"
        refine k_to (fun h3 => ?_) fun h3 => ?_
        · rw [if_pos (.inl (of_decide_eq_true h3))] at q
          walk_at "g5"
          exact q
        have h3 := of_decide_eq_false h3
        walk_at "g5"
        refine kif_d (fun h4 => ?_) fun h4 => ?_
        · rw [if_pos (.inr h4)] at q
          walk_at "g5"
          exact q
        rw [if_neg (by omega)] at q
        walk_at "g5"
        refine kif_d (fun h5 => ?_) fun h5 => ?_
        · rw [if_pos h5] at q
          walk_at "g5"
          exact q
        rw [if_neg h5] at q
        walk_at "g5"
        refine i_C dx (by omega) (by omega) fun u2 du2 => ?_
        walk_at "g5"
        refine i_C0 du2 ?_
        walk_at "g5"
        refine kif_n (fun h6 => ?_) fun h6 => ?_
        · rw [if_pos h6] at q
          walk_at "g5"
          exact q
        rw [if_neg (by simpa using h6)] at q
        walk_at "g5"
        refine i_G dy (by omega) (by omega) ?_
        rw [Int.toNat_natCast]
        walk_at "g5"
        refine i_G dy (by omega) (by omega) ?_
        walk_at "g5"
        exact q
  · have h0 : f = 0 := by simpa using h0
    subst h0
    rw [if_neg (by decide)] at q
    walk_at "g5"
    refine kif_d (fun h2 => ?_) fun h2 => ?_
    · rw [if_pos h2] at q
      walk_at "g5"
      refine i_G dy (by omega) (by omega) ?_
      rw [Int.toNat_natCast]
      walk_at "g5"
      exact q
    · rw [if_neg h2] at q
      walk_at "g5"
      refine k_to (fun h3 => ?_) fun h3 => ?_
      · rw [if_pos (.inl (of_decide_eq_true h3))] at q
        walk_at "g5"
        exact q
      have h3 := of_decide_eq_false h3
      walk_at "g5"
      refine kif_d (fun h4 => ?_) fun h4 => ?_
      · rw [if_pos (.inr h4)] at q
        walk_at "g5"
        exact q
      rw [if_neg (by omega)] at q
      walk_at "g5"
      refine kif_d (fun h5 => ?_) fun h5 => ?_
      · rw [if_pos h5] at q
        walk_at "g5"
        exact q
      rw [if_neg h5] at q
      walk_at "g5"
      refine i_C dx (by omega) (by omega) fun u2 du2 => ?_
      walk_at "g5"
      refine i_C0 du2 ?_
      walk_at "g5"
      refine kif_n (fun h6 => ?_) fun h6 => ?_
      · rw [if_pos h6] at q
        walk_at "g5"
        exact q
      rw [if_neg (by simpa using h6)] at q
      walk_at "g5"
      refine i_G dy (by omega) (by omega) ?_
      rw [Int.toNat_natCast]
      walk_at "g5"
      refine i_G dy (by omega) (by omega) ?_
      walk_at "g5"
      exact q
/-! ### classes out of any value -/
def pairOf (d : PyData) : Option (Bool × (Int × Int)) := match intsOf d with
  | some (b, [l, f]) => some (b, (l, f))
  | _ => none
theorem pairOf_some {d : PyData} {q : Bool × (Int × Int)} (h : pairOf d = some q) : d = rw2 q := by
  unfold pairOf at h
  split at h
  · rename_i b l f e
    cases h
    rw [intsOf_some e]; rfl
  · cases h
def clsL (ds : List PyData) : List (Int × Int) := ds.map fun e => ((pairOf e).getD (true, cz)).2
def clsOf (d : PyData) : Option (List (Int × Int)) := match rowOf d with
  | some (_, ds) => if ds.all (fun e => (pairOf e).isSome) = true then some (clsL ds) else none
  | none => none
def acB (d : PyData) (bits : List Int) : Bool := match clsOf d with
  | some cl => decide (cl.length = bits.length) && (List.range cl.length).all (prB cl bits)
  | none => false
theorem Dc.row {w : Wd} {x : V} {b : Bool} {ds : List PyData} (dx : Dv w x (rw_ b ds)) (h : ds.all (fun e => (pairOf e).isSome) = true) : Dc w x (clsL ds) := by
  refine ⟨b, ds.map fun e => (pairOf e).getD (true, cz), ?_, by rw [List.map_map]; rfl⟩
  have : (ds.map fun e => (pairOf e).getD (true, cz)).map rw2 = ds := by
    rw [List.map_map]
    conv => rhs; rw [← List.map_id ds]
    refine List.map_congr_left fun e he => ?_
    have := List.all_eq_true.mp h e he
    obtain ⟨q, hq⟩ := Option.isSome_iff_exists.mp this
    show rw2 ((pairOf e).getD (true, cz)) = e
    rw [hq]
    exact (pairOf_some hq).symm
  rw [this]; exact dx
theorem clsL_len (ds : List PyData) : (clsL ds).length = ds.length := by simp [clsL]
/-- are_classes of any value -/
theorem areany_spec {d : PyData} (M1 : MG v w A inp regs1 ands1 ods1 s c) (M2 : MG v w B inp regs2 ands2 ods2 s c) (hr1 : regs1.length ≤ 10) (hr2 : regs2.length ≤ 10) (dx : Dv w x d)
    (q : ∀ w', Ex [] w w' → Q (.bl (acB d (firsts regs1 ++ firsts regs2))) w'.H) : spOf v D (n + 3) i_are_classes [.ref A.g, .ref B.g, x] w.H Q E := by
  have hbits : Bs (firsts regs1 ++ firsts regs2) := fun y hy => by
    rcases List.mem_append.mp hy with h | h
    · exact firsts_bs M1.R y h
    · exact firsts_bs M2.R y h
  have lb : (firsts regs1 ++ firsts regs2).length ≤ 20 := by simp [firsts]; omega
  refine in_are_classes ?_
  unfold b_are_classes
  walk_at "g5"
  refine inits_spec M1.G (by omega) fun w1 z1 e1 d1 => ?_
  walk_at "g5"
  refine inits_spec (M2.G.ex0 e1) (by omega) fun w2 z2 e2 d2 => ?_
  refine o_addL (d1.ex e2) d2 (by simp [firsts, sizeLine_eq]; omega) fun w3 xb e3 d3 => ?_
  rw [← List.map_append] at d3
  have E3 : Ex [] w w3 := (e1.t0 e2).t0 e3
  generalize firsts regs1 ++ firsts regs2 = bits at d3 lb q hbits
  have dx3 := dx.ex E3
  walk_at "g5"
  refine isrow_spec dx3 ?_
  cases hr : rowOf d with
  | none =>
    have : acB d bits = false := by unfold acB clsOf; rw [hr]
    rw [this] at q
    simp only [Option.isSome_none]
    walk_at "g5"
    exact q w3 E3
  | some pr =>
  obtain ⟨b, ds⟩ := pr
  have e : d = rw_ b ds := rowOf_some hr
  subst e
  have hcl : clsOf (rw_ b ds) = if ds.all (fun e => (pairOf e).isSome) = true then some (clsL ds) else none := by unfold clsOf; rw [hr]
  have qf : acB (rw_ b ds) bits = false → ∀ w', Ex [] w w' → Q (.bl false) w'.H := fun h w' e => by rw [← h]; exact q w' e
  simp only [Option.isSome_some]
  walk_at "g5"
  refine f_lenRow dx3 ?_
  walk_at "g5"
  refine f_lenL d3 ?_
  rw [List.length_map]
  walk_at "g5"
  refine kif_n (fun h => ?_) fun h => ?_
  · walk_at "g5"
    refine qf ?_ w3 E3
    unfold acB
    rw [hcl]
    split
    · rename_i cl e
      split at e
      · cases e
        rw [clsL_len, decide_eq_false (by intro z; rw [z] at h; exact h rfl)]; rfl
      · cases e
    · rfl
  have hlen : ds.length = bits.length := by
    have h : ((ds.length : Nat) : Int) = ((bits.length : Nat) : Int) := by simpa using h
    omega
  walk_at "g5"
  refine for_row rfl dx3 (fun i σ w' => w' = w3 ∧ (∃ a4, σ = [some (.ref A.g), some (.ref B.g), some x, some xb, a4, none]) ∧ (ds.take i).all (fun e => (pairOf e).isSome) = true) (fun i σ w' h => ⟨[], by rw [h.1]; exact Ex.refl w3⟩) ⟨rfl, ⟨_, rfl⟩, by simp⟩ ?_ ?_
  · rintro i d y σ w' hd dy ⟨rfl, ⟨a4, rfl⟩, hall⟩
    have tk : ds.take (i + 1) = ds.take i ++ [d] := by rw [List.take_add_one, hd]; rfl
    have bad : pairOf d = none → acB (rw_ b ds) bits = false := fun hz => by
      have : ¬ ds.all (fun e => (pairOf e).isSome) = true := fun h => by
        have := List.all_eq_true.mp h d (List.mem_of_getElem? hd)
        rw [hz] at this; cases this
      unfold acB
      rw [hcl, if_neg this]
    walk_at "g5"
    refine areints_spec dy ?_
    cases hi : intsOf d with
    | none =>
      simp only [Option.isSome_none]
      walk_at "g5"
      exact qf (bad (by unfold pairOf; rw [hi])) _ E3
    | some p =>
      obtain ⟨b', l⟩ := p
      have ed := intsOf_some hi
      simp only [Option.isSome_some]
      walk_at "g5"
      rw [ed] at dy
      refine f_lenRow dy ?_
      rw [List.length_map]
      walk_at "g5"
      refine kif_n (fun h => ?_) fun h => ?_
      · walk_at "g5"
        refine qf (bad ?_) _ E3
        unfold pairOf
        rw [hi]
        match l, h with
        | [], _ => rfl
        | [_], _ => rfl
        | [_, _], h => exact absurd rfl h
        | _ :: _ :: _ :: _, _ => rfl
      · have h : l.length = 2 := by
          have h : ((l.length : Nat) : Int) = 2 := by simpa using h
          omega
        walk_at "g5"
        refine k_is ⟨rfl, ⟨_, rfl⟩, ?_⟩
        have hp : (pairOf d).isSome = true := by
          unfold pairOf
          rw [hi]
          match l, h with
          | [_, _], _ => rfl
        rw [tk, List.all_append, hall]
        simp [hp]
  rintro σ w' ⟨rfl, ⟨a4, rfl⟩, hall⟩
  rw [List.take_length] at hall
  rw [if_pos hall] at hcl
  have dC := Dc.row dx3 hall
  have hcl2 : acB (rw_ b ds) bits = (List.range (clsL ds).length).all (prB (clsL ds) bits) := by
    unfold acB
    rw [hcl]
    dsimp only
    rw [decide_eq_true (by rw [clsL_len]; exact hlen), Bool.true_and]
  have lcl := clsL_len ds
  generalize clsL ds = cl at dC hcl2 lcl
  walk_at "g5"
  refine f_lenL d3 ?_
  rw [List.length_map, ← hlen, ← lcl]
  walk_at "g5"
  refine k_r1 (by omega) (by omega) ?_
  refine k_for_n cl.length (by omega) (fun i σ w'' => w'' = w' ∧ (∃ a5, σ = [some (.ref A.g), some (.ref B.g), some x, some xb, a4, a5]) ∧ ∀ j, j < i → prB cl bits j = true) ⟨rfl, ⟨_, rfl⟩, fun j hj => by omega⟩ ?_ ?_
  · rintro i σ w'' hi ⟨rfl, ⟨a5, rfl⟩, hall⟩
    walk_at "g5"
    refine pair_right_spec dC d3 hbits (by omega) hi ?_
    walk_at "g5"
    cases hz : prB cl bits i with
    | true =>
      walk_at "g5"
      refine k_is ⟨rfl, ⟨_, rfl⟩, fun j hj => ?_⟩
      rcases Nat.lt_or_ge j i with z | z
      · exact hall j z
      · rw [show j = i by omega]; exact hz
    | false =>
      walk_at "g5"
      refine qf ?_ _ E3
      rw [hcl2]
      refine Bool.eq_false_iff.mpr fun h => ?_
      have := List.all_eq_true.mp h i (List.mem_range.mpr hi)
      rw [hz] at this; cases this
  · rintro σ w'' ⟨rfl, ⟨a5, rfl⟩, hall⟩
    walk_at "g5"
    have : acB (rw_ b ds) bits = true := by
      rw [hcl2]
      exact List.all_eq_true.mpr fun j hj => hall j (List.mem_range.mp hj)
    rw [← this]
    exact q _ E3
end
/-! ### sizes of data, dicts too -/
structure Sy (p n : Nat) (d : PyData) : Prop where
  sh : d.showable = true
  dp : d.depth ≤ p
  ln : d.shown.length ≤ n
theorem Sy.of {p n : Nat} {d : PyData} (h : Sz p n d) : Sy p n d := ⟨h.sh, h.dp, h.ln⟩
theorem Sy.mono {p n p' n' : Nat} {d : PyData} (h : Sy p n d) (hp : p ≤ p') (hn : n ≤ n') : Sy p' n' d := ⟨h.sh, Nat.le_trans h.dp hp, Nat.le_trans h.ln hn⟩
theorem all_sy {p n : Nat} : ∀ {ds : List PyData}, (∀ d ∈ ds, Sy p n d) → PyData.showableAll ds = true ∧ PyData.depthAll ds ≤ p
  | [], _ => ⟨by simp [PyData.showableAll], by simp [PyData.depthAll]⟩
  | d :: r, h => by
    obtain ⟨h2, h3⟩ := all_sy (ds := r) fun e he => h e (List.mem_cons_of_mem _ he)
    have z := h d (List.mem_cons_self ..)
    exact ⟨by simp [PyData.showableAll, z.sh, h2], by simp only [PyData.depthAll]; have := z.dp; omega⟩
theorem Sy.list {p n m : Nat} {ds : List PyData} (h : ∀ d ∈ ds, Sy p n d) (hm : ds.length ≤ m) : Sy (p + 1) (m * (n + 2) + 2) (.list ds) := by
  obtain ⟨h2, h3⟩ := all_sy h
  refine ⟨by simpa [PyData.showable] using h2, by simp only [PyData.depth]; omega, ?_⟩
  have a := listText_le (PyData.shownAll ds)
  have b := piled_shown (ds := ds) fun d hd => (h d hd).ln
  have c := Nat.mul_le_mul_right (n + 2) hm
  show (listText (PyData.shownAll ds)).length ≤ _
  omega
theorem Sy.tup {p n m : Nat} {ds : List PyData} (h : ∀ d ∈ ds, Sy p n d) (hm : ds.length ≤ m) : Sy (p + 1) (m * (n + 2) + 3) (.tuple ds) := by
  obtain ⟨h2, h3⟩ := all_sy h
  refine ⟨by simpa [PyData.showable] using h2, by simp only [PyData.depth]; omega, ?_⟩
  have a := tupleText_le (PyData.shownAll ds)
  have b := piled_shown (ds := ds) fun d hd => (h d hd).ln
  have c := Nat.mul_le_mul_right (n + 2) hm
  show (tupleText (PyData.shownAll ds)).length ≤ _
  omega
theorem f_reprY {K : PySem.W.Frag} {H : Hp} {Q : VK} {p n : Nat} {x : V} {d : PyData} (hd : Dq K H x d) (z : Sy p n d) (hp : p < 63) (hn : n ≤ 16777216) (h : Q (.str d.shown) H) : KBf K .repr Q [x] H :=
  f_repr hd z.sh (Nat.lt_of_le_of_lt z.dp hp) (Nat.le_trans z.ln (by rw [sizeLine_eq]; exact hn)) h
/-! ### _law_copy -/
section
variable {v : Ev} {n : Nat} {w : Wd} {A B : GA} {inp : Int} {regs ands : List (Int × Int)} {ods : List Int} {s c : Addr} {Q : VK} {E : XK}
theorem lcopy_spec {x : V} {fl : List Int} (hg : v.gv g_max_nodes = .int 4000) (M : MG v w B inp regs ands ods s c) (hs : ∃ o, w.H s = some o) (hc : ∃ o, w.H c = some o) (dx : Dv w x (ids fl)) (bf : Bs fl) (hfl : fl.length = regs.length) (hi : 0 ≤ inp) (hr : regs.length ≤ 10) (ho : ods.length < 1000) (hm : 1 + inp + regs.length + ands.length < 4000)
    (q : ∀ w' A regs' ands' ods', Ex [] w w' → (∀ b, A.has b → w.H b = none) → MG v w' A inp regs' ands' ods' s c → regs'.length = regs.length → ands'.length ≤ ands.length → ods'.length = ods.length → Q (.ref A.g) w'.H) :
    spOf v D (n + 3) i_law_copy [.ref B.g, x] w.H Q E := by
  refine in_law_copy ?_
  unfold b_law_copy
  walk_at "g2"
  refine f_lenL dx ?_
  walk_at "g2"
  rw [List.length_map]
  refine k_r1 (by omega) (by omega) ?_
  refine k_lc_mkR fl.length (by omega) (fun k => .int (Builtin.bitXor (regs.getD k (0, 0)).2 (fl.getD k 0))) (by omega) (fun k w' R hk e hR => ?_) fun w1 p1 zs e1 hp1 o1 r1 => ?_
  · have G' := M.G.ex0 e
    obtain ⟨rv, org, drg⟩ := G'.rg
    refine g_nm ?_
    refine k_mk1 rfl ?_
    walk_at "g2"
    refine k_fl G'.og (by rfl) ?_
    walk_at "g2"
    refine i_OM (z := ((0, 0) : Int × Int)) (g := dp) org.h drg (by omega) (by omega) fun u du => ?_
    rw [Int.toNat_natCast] at du
    walk_at "g2"
    refine i_T1 du ?_
    walk_at "g2"
    refine i_G (dx.ex e) (by omega) (by omega) ?_
    rw [Int.toNat_natCast]
    walk_at "g2"
    exact hR w' _ (Ex.refl _) (.int _)
  have hz := r1.ints_of
  subst hz
  have bi : Bs ((List.range fl.length).map fun k => Builtin.bitXor (regs.getD k (0, 0)).2 (fl.getD k 0)) := by
    intro z hz
    obtain ⟨k, hk, rfl⟩ := List.mem_map.mp hz
    have hk : k < fl.length := by simpa using hk
    exact xor_bits (M.R _ (getD_memP (by omega))).2 (bf.get k)
  have li : ((List.range fl.length).map fun k => Builtin.bitXor (regs.getD k (0, 0)).2 (fl.getD k 0)).length = regs.length := by simp [hfl]
  generalize ((List.range fl.length).map fun k => Builtin.bitXor (regs.getD k (0, 0)).2 (fl.getD k 0)) = bs at o1 bi li
  obtain ⟨w2, eh2, e2, d2⟩ := seal_lst o1 (Dvs.ints _)
  rw [← eh2]
  have E2 : Ex [] w w2 := e1.tf e2 hp1
  have G2 := M.G.ex0 E2
  walk_at "g2"
  refine k_fl G2.og (by rfl) ?_
  walk_at "g2"
  refine k_mk fun w3 gA dxA e3 hgA og => ?_
  refine init_spec hg og (d2.ex e3) hi (by omega) fun w4 A eA e4 G4 fr4 => ?_
  subst eA
  refine ⟨rfl, ?_⟩
  have frA0 : w.H A.g = none := E2.free hgA
  have E4 : Ex [] w w4 := (E2.t0 e3).tf e4 frA0
  have frA : ∀ b, A.has b → w.H b = none := fun b hb => by
    by_cases e : b = A.g
    · rw [e]; exact frA0
    · cases q : w.H b with
      | none => rfl
      | some o => obtain ⟨o', h'⟩ := (E2.t0 e3).al b o q; exact absurd hb (fr4 b o' h' e)
  have dAB : ∀ b, A.has b → ¬ B.has b := fun b hb => M.G.fresh (frA b hb)
  have nAs : ¬ A.has s := fun h => by obtain ⟨o, ho⟩ := hs; rw [frA _ h] at ho; cases ho
  have nAc : ¬ A.has c := fun h => by obtain ⟨o, ho⟩ := hc; rw [frA _ h] at ho; cases ho
  have lregs : (regs0 inp bs bs.length).length = regs.length := by rw [regs0_len, li]
  have rok := regs0_ok bi hi (f := 1 + inp + ((regs0 inp bs bs.length).length : Int)) (by rw [lregs, li]) bs.length (Nat.le_refl _)
  generalize regs0 inp bs bs.length = regs2 at G4 lregs rok
  have M4 := M.G.ex0 E4
  have dx4 := dx.ex E4
  walk_at "g2"
  refine k_fl M4.og (by rfl) ?_
  walk_at "g2"
  refine k_r1 (by omega) (by omega) ?_
  refine k_lc_mkR (1 + inp).toNat rfl (fun k => .int (2 * (k : Int))) (by omega) (fun k w' R hk e hR => ?_) fun w5 pl zs e5 hpl o5 r5 => ?_
  · refine g_nm ?_
    refine k_mk1 rfl ?_
    walk_at "g2"
    refine o_mul (.inl ⟨by decide, by decide⟩) ?_
    exact hR w' _ (Ex.refl _) (.int _)
  have hz := r5.ints_of
  subst hz
  have L5 : Lits (1 + inp + regs2.length) [] ((List.range (1 + inp).toNat).map fun (k : Nat) => 2 * (k : Int)) := by
    intro l hl
    obtain ⟨k, hk, rfl⟩ := List.mem_map.mp hl
    have hk : k < (1 + inp).toNat := by simpa using hk
    simp only [List.length_nil]
    omega
  have l5 : ((List.range (1 + inp).toNat).map fun (k : Nat) => 2 * (k : Int)).length = (1 + inp).toNat := by simp
  generalize ((List.range (1 + inp).toNat).map fun (k : Nat) => 2 * (k : Int)) = L0 at o5 L5 l5
  have frl : w.H pl = none := E4.free hpl
  have nlA : ¬ A.has pl := G4.fresh hpl
  have nlB := M.G.fresh frl
  have G5 := G4.ex0 e5
  walk_at "g2"
  refine f_lenL (dx4.ex e5) ?_
  walk_at "g2"
  rw [List.length_map]
  refine k_r1 (by omega) (by omega) ?_
  refine k_for_n fl.length (by omega) (fun i σ w' => ∃ a2 a5 a6 a7 a8 a9 L, σ = [some (.ref B.g), some x, a2, some (.ref A.g), some (.ref pl), a5, a6, a7, a8, a9] ∧ Ex [] w w' ∧ Gr (v.cls c_Graph) w' A inp regs2 [] [] ∧ Op w' pl (.lst (L.map V.int)) ∧ (L.length : Int) = 1 + inp + i ∧ Lits (1 + inp + regs2.length) [] L)
    ⟨_, _, _, _, _, _, L0, rfl, E4.t0 e5, G5, o5, by omega, L5⟩ ?_ ?_
  · rintro i σ w' hi' ⟨a2, a5, a6, a7, a8, a9, L, rfl, E', G', o', hL, hLL⟩
    walk_at "g2"
    refine k_m1 o'.h rfl ?_
    walk_at "g2"
    refine k_me G'.og (by rfl) ?_
    walk_at "g2"
    refine in_Graph_register_literal ?_
    unfold b_Graph_register_literal
    walk_at "g2"
    refine k_fl G'.og (by rfl) ?_
    walk_at "g2"
    refine o_mul (.inl ⟨by decide, by decide⟩) ?_
    walk_at "g2"
    refine i_G (dx.ex E') (by omega) (by omega) ?_
    rw [Int.toNat_natCast]
    walk_at "g2"
    have hb := bf.get i
    have hx := xor_rng (l := 2 * (1 + inp + (i : Int))) (r := fl.getD i 0) (m := 1 + inp + regs2.length) (by omega) (by omega) (by omega) (by omega)
    refine m_app o' (by rw [List.length_map, sizeLine_eq]; omega) fun w6 e6 o6 => ?_
    walk_at "g2"
    refine k_is ⟨_, _, _, _, _, _, L ++ [Builtin.bitXor (2 * (1 + inp + (i : Int))) (fl.getD i 0)], rfl, E'.tf e6 frl, G'.ex e6 (by simpa using nlA), by simpa using o6, by simp; omega, ?_⟩
    intro l hl
    rcases List.mem_append.mp hl with hl | hl
    · exact hLL l hl
    · simp only [List.mem_singleton] at hl; subst hl
      simp only [List.length_nil]
      omega
  rintro σ w6 ⟨a2, a5, a6, a7, a8, a9, L, rfl, E6, G6, o6, hL, hLL⟩
  have M6 := M.G.ex0 E6
  obtain ⟨sv, osn, dsn⟩ := M6.an
  have nT : ∀ b ∈ [A.an, A.kn], ¬ B.has b := by
    intro b hb
    simp only [List.mem_cons, List.not_mem_nil, or_false] at hb
    rcases hb with rfl | rfl
    · exact dAB _ (.inr (.inr (.inl rfl)))
    · exact dAB _ (.inr (.inr (.inr (.inr rfl))))
  have frT : ∀ b ∈ [A.an, A.kn], b ∈ ([] : List Addr) ∨ w.H b = none := by
    intro b hb
    simp only [List.mem_cons, List.not_mem_nil, or_false] at hb
    rcases hb with rfl | rfl
    · exact .inr (frA _ (.inr (.inr (.inl rfl))))
    · exact .inr (frA _ (.inr (.inr (.inr (.inr rfl)))))
  walk_at "g2"
  refine k_fl M6.og (by rfl) ?_
  refine k_ls osn.h ?_
  refine k_for_lst (xs := sv) (fun i σ w' => ∃ a2 a5 a6 a7 a8 a9 L ands', σ = [some (.ref B.g), some x, a2, some (.ref A.g), some (.ref pl), a5, a6, a7, a8, a9] ∧ Ex [] w w' ∧ w'.H B.an = some (.lst sv) ∧ Dvs w' sv (ands.map dp) ∧ Gr (v.cls c_Graph) w' A inp regs2 ands' [] ∧ WFg (1 + inp + regs2.length) ands' ∧ ands'.length ≤ i ∧ Op w' pl (.lst (L.map V.int)) ∧ (L.length : Int) = 1 + inp + regs.length + i ∧ Lits (1 + inp + regs2.length) ands' L)
    (fun i σ w' h => by obtain ⟨_, _, _, _, _, _, _, _, _, _, h, _⟩ := h; exact h) ⟨_, _, _, _, _, _, L, [], rfl, E6, osn.h, dsn, G6, ⟨fun k p h => by simp at h, List.nodup_nil⟩, by simp, o6, by omega, hLL⟩ ?_ ?_
  · rintro i d σ w' hd ⟨a2, a5, a6, a7, a8, a9, L, ands', rfl, E', hsn, dsv, G', W', hle, o', hL, hLL⟩
    obtain ⟨pd, hpd, dpv⟩ := dsv.get' hd
    rw [List.getElem?_map] at hpd
    obtain ⟨pr, hpr, rfl⟩ := Option.map_eq_some_iff.mp hpd
    have hk : i < ands.length := by
      rcases Nat.lt_or_ge i ands.length with h | h
      · exact h
      · rw [List.getElem?_eq_none h] at hpr; cases hpr
    have hw := M.W.ok i pr hpr
    have b1 : (pr.1 / 2).toNat < L.length := by omega
    have b2 : (pr.2 / 2).toNat < L.length := by omega
    have r1 := trn_rng hLL b1
    have r2 := trn_rng hLL b2
    walk_at "g2"
    refine i_T0 dpv ?_
    walk_at "g2"
    refine o_fdv (by decide) (by decide) ?_
    refine i_OG o'.h (by omega) (by omega) ?_
    walk_at "g2"
    refine i_T0 dpv ?_
    walk_at "g2"
    refine o_mod (by decide) ?_
    walk_at "g2"
    refine i_T1 dpv ?_
    walk_at "g2"
    refine o_fdv (by decide) (by decide) ?_
    refine i_OG o'.h (by omega) (by omega) ?_
    walk_at "g2"
    refine i_T1 dpv ?_
    walk_at "g2"
    refine o_mod (by decide) ?_
    walk_at "g2"
    refine k_m1 o'.h rfl ?_
    walk_at "g2"
    refine k_me G'.og (by rfl) ?_
    walk_at "g2"
    refine conj_spec (a := trn L pr.1) (b := trn L pr.2) hg G' r1.1 r2.1 hi (by omega) fun w7 e7 G7 => ?_
    have Mk := conj_ok W' (by omega) r1.1 r1.2 r2.1 r2.2
    generalize conj (1 + inp + regs2.length) ands' (trn L pr.1) (trn L pr.2) = r at G7 Mk
    obtain ⟨t2, et2⟩ := Mk.ex
    have o7 := o'.ex e7 (GA.no nlA)
    walk_at "g2"
    refine m_app o7 (by rw [List.length_map, sizeLine_eq]; omega) fun w8 e8 o8 => ?_
    walk_at "g2"
    have hBan : B.an ∉ [A.an, A.kn] := fun h => nT _ h (.inr (.inr (.inl rfl)))
    refine k_is ⟨_, _, _, _, _, _, L ++ [r.1], r.2, rfl, (E'.trans e7 frT).tf e8 frl, ?_, (dsv.ex e7).ex e8, G7.ex e8 (by simpa using nlA), Mk.wf, by have := Mk.le; omega, by simpa using o8, by simp; omega, ?_⟩
    · exact e8.kp _ _ (e7.kp _ _ hsn hBan) (by simp only [List.mem_singleton]; exact fun z => nlB (.inr (.inr (.inl z.symm))))
    · intro l hl
      rcases List.mem_append.mp hl with hl | hl
      · rw [et2]; exact hLL.more l hl
      · simp only [List.mem_singleton] at hl; subst hl; exact ⟨Mk.r0, Mk.r1⟩
  rintro σ w7 ⟨a2, a5, a6, a7, a8, a9, L, ands', rfl, E7, hsn, dsv, G7, W7, hle, o7, hL, hLL⟩
  have lsv : sv.length = ands.length := by rw [dsv.length, List.length_map]
  rw [lsv] at hle hL
  have rok7 : Regs (1 + inp + regs2.length) ands' regs2 := by have := rok.more (t := ands'); simpa using this
  walk_at "g2"
  refine f_lenL (dx.ex E7) ?_
  walk_at "g2"
  rw [List.length_map]
  refine k_r1 (by omega) (by omega) ?_
  refine k_for_n fl.length (by omega) (fun i σ w' => ∃ a2 a5 a6 a7 a8 a9 regs', σ = [some (.ref B.g), some x, a2, some (.ref A.g), some (.ref pl), a5, a6, a7, a8, a9] ∧ Ex [] w w' ∧ Gr (v.cls c_Graph) w' A inp regs' ands' [] ∧ regs'.length = regs2.length ∧ Regs (1 + inp + regs2.length) ands' regs' ∧ Op w' pl (.lst (L.map V.int)))
    ⟨_, _, _, _, _, _, regs2, rfl, E7, G7, rfl, rok7, o7⟩ ?_ ?_
  · rintro i σ w' hi' ⟨a2, a5, a6, a7, a8, a9, regs', rfl, E', G', hlr, hR, o'⟩
    have M' := M.G.ex0 E'
    obtain ⟨rv, org, drg⟩ := M'.rg
    have hm1 := M.R _ (getD_memP (show i < regs.length by omega))
    have b1 : ((regs.getD i (0, 0)).1 / 2).toNat < L.length := by omega
    walk_at "g2"
    refine k_fl M'.og (by rfl) ?_
    walk_at "g2"
    refine i_OM (z := ((0, 0) : Int × Int)) (g := dp) org.h drg (by omega) (by omega) fun u du => ?_
    rw [Int.toNat_natCast] at du
    walk_at "g2"
    refine i_T0 du ?_
    walk_at "g2"
    refine k_me G'.og (by rfl) ?_
    walk_at "g2"
    refine o_fdv (by decide) (by decide) ?_
    refine i_OG o'.h (by omega) (by omega) ?_
    walk_at "g2"
    refine o_mod (by decide) ?_
    walk_at "g2"
    refine i_G (dx.ex E') (by omega) (by omega) ?_
    rw [Int.toNat_natCast]
    walk_at "g2"
    have r1 := trn_rng hLL b1
    have hb := bf.get i
    have hx := xor_rng (l := trn L (regs.getD i (0, 0)).1) (r := fl.getD i 0) r1.1 (by omega) (by omega) r1.2
    have frg : w.H A.rg = none := frA _ (.inr (.inl rfl))
    refine setnext_spec (l := Builtin.bitXor (trn L (regs.getD i (0, 0)).1) (fl.getD i 0)) G' (by omega) fun w8 e8 G8 => ?_
    walk_at "g2"
    refine k_is ⟨_, _, _, _, _, _, _, rfl, E'.tf e8 frg, G8, by rw [List.length_set, hlr], ?_, o'.ex e8 (by simp only [List.mem_singleton]; exact fun z => nlA (.inr (.inl z)))⟩
    intro p hp
    rcases List.mem_or_eq_of_mem_set hp with hp | hp
    · exact hR p hp
    · subst hp
      exact ⟨hx, (hR _ (getD_memP (by omega))).2⟩
  rintro σ w8 ⟨a2, a5, a6, a7, a8, a9, regs', rfl, E8, G8, hlr, hR, o8⟩
  have M8 := M.G.ex0 E8
  walk_at "g2"
  refine k_me G8.og (by rfl) ?_
  walk_at "g2"
  refine k_fl M8.og (by rfl) ?_
  refine k_ls M8.ou.h ?_
  refine lc_ints (trn L) M8.ou.h (by omega) (fun l w' D P hl E' hk => ?_) fun w9 zo e9 d9 => ?_
  · have hl := M.L l hl
    refine g_nm ?_
    dsimp only [wipe, List.set_cons_zero, List.set_cons_succ]
    refine k_lb0 rfl ?_
    walk_at "g2"
    refine o_fdv (by decide) (by decide) ?_
    refine i_OG (xs := L) (E'.kp _ _ o8.h (by simp)) (by omega) (by omega) ?_
    walk_at "g2"
    refine o_mod (by decide) ?_
    walk_at "g2"
    exact hk _ rfl
  walk_at "g2"
  refine setouts_spec (G8.ex0 e9) d9 fun w10 po e10 hpo G10 => ?_
  walk_at "g2"
  have frpo : w.H po = none := (E8.t0 e9).free hpo
  have frA' : ∀ b, ({ A with ou := po } : GA).has b → w.H b = none := fun b hb => by
    rcases hb with h | h | h | h | h
    · exact frA b (.inl h)
    · exact frA b (.inr (.inl h))
    · exact frA b (.inr (.inr (.inl h)))
    · rw [show b = po from h]; exact frpo
    · exact frA b (.inr (.inr (.inr (.inr h))))
  refine q w10 { A with ou := po } regs' ands' (ods.map (trn L)) ((E8.t0 e9).tf e10 frA0) frA' ⟨G10, by rw [hlr]; exact W7, by rw [hlr]; exact hR, ?_, fun h => ?_, fun h => ?_⟩ (by omega) hle (by rw [List.length_map])
  · intro l hl
    obtain ⟨m, hm', rfl⟩ := List.mem_map.mp hl
    have hm' := M.L m hm'
    rw [hlr]
    exact trn_rng hLL (by omega)
  · obtain ⟨o, ho⟩ := hs; rw [frA' _ h] at ho; cases ho
  · obtain ⟨o, ho⟩ := hc; rw [frA' _ h] at ho; cases ho
end
theorem Ex.tt'' {T U : List Addr} {w w1 w2 : Wd} (e : Ex T w w1) (f : Ex U w1 w2) (h : ∀ b ∈ U, ¬ w.S b) : Ex (T ++ U) w w2 :=
  (e.more (U := T ++ U) (fun b hb => List.mem_append_left _ hb) (fun b hb => by
    rcases List.mem_append.mp hb with hb | hb
    · exact e.op b hb
    · exact h b hb)).trans f (fun b hb => .inl (List.mem_append_right _ hb))
section
variable {v : Ev} {n : Nat} {w : Wd} {A B : GA} {inp : Int} {regs ands : List (Int × Int)} {ods : List Int} {s c : Addr} {Q : VK} {E : XK}
theorem Gen.has {w : Wd} {s c : Addr} (g : Gen w s c) : (∃ o, w.H s = some o) ∧ ∃ o, w.H c = some o := by
  obtain ⟨i, cs, h1, h2, _⟩ := g.g
  exact ⟨⟨_, h1.h⟩, ⟨_, h2.h⟩⟩
theorem spoil_spec (g : Gen w s c) (M : MG v w B inp regs ands ods s c) (hi : 0 ≤ inp) (hi2 : inp < 1000) (hr : regs.length ≤ 10) (ha : ands.length < 4000) (ho0 : 0 < ods.length) (ho : ods.length < 1000)
    (q : ∀ w' B' regs' ods' T, Ex T w w' → (∀ b ∈ T, b = s ∨ b = c ∨ B.has b) → Gen w' s c → B'.g = B.g → (∀ b, B'.has b → B.has b ∨ w.H b = none) → MG v w' B' inp regs' ands ods' s c → regs'.length = regs.length → ods'.length = ods.length → Q .non w'.H) :
    spOf v D (n + 2) i_law_spoil [.ref s, .ref B.g] w.H Q E := by
  obtain ⟨rv, org, drg⟩ := M.G.rg
  have hS := M.sc
  refine in_law_spoil ?_
  unfold b_law_spoil
  walk_at "g2"
  refine take_spec g (by decide) (by decide) fun w1 ch e1 g1 c0 c1 => ?_
  have M1 := M.ex e1 hS
  walk_at "g2"
  generalize hN : Nx _ _ _ _ _ _ _ = N
  have rest : ∀ (w2 : Wd) (regs2 : List (Int × Int)) (T : List Addr) (a3 : Option V), Ex T w w2 → (∀ b ∈ T, b = s ∨ b = c ∨ B.has b) → Gen w2 s c → MG v w2 B inp regs2 ands ods s c → regs2.length = regs.length → N [some (.ref s), some (.ref B.g), some (.int ch), a3, none] w2.H := by
    intro w2 regs2 T a3 E2 hT g2 M2 hl2
    subst hN
    walk_at "g2"
    refine kif_d (fun hz => ?_) fun hz => ?_
    · walk_at "g2"
      refine k_fl M2.G.og (by rfl) ?_
      walk_at "g2"
      refine f_lenO M2.G.ou.h ?_
      walk_at "g2"
      rw [List.length_map]
      refine take_spec g2 (by omega) (by omega) fun w3 at_ e3 g3 t0 t1 => ?_
      have M3 := M2.ex e3 hS
      walk_at "g2"
      refine k_fl M3.G.og (by rfl) ?_
      walk_at "g2"
      refine f_lstO M3.G.ou.h (new_op fun w4 po e4 hpo o4 => ?_)
      have M4 := M3.ex e4 (by simp)
      have g4 := g3.ex0 e4
      have spo := g3.fs hpo
      have cpo := g3.fc hpo
      have npo := M3.G.fresh hpo
      walk_at "g2"
      refine k_me M4.G.og (by rfl) ?_
      walk_at "g2"
      refine count_spec M4.G ?_
      walk_at "g2"
      refine o_mul (.inl ⟨by decide, by decide⟩) ?_
      walk_at "g2"
      refine take_spec g4 (by omega) (by omega) fun w5 l e5 g5 l0 l1 => ?_
      have M5 := M4.ex e5 hS
      have o5 := o4.ex e5 (by simp [Ne.symm spo, Ne.symm cpo])
      walk_at "g2"
      refine k_set_lst (j := at_.toNat) o5 (by unfold ixN; rw [if_pos t0, if_pos (by rw [List.length_map]; exact t1)]) fun w6 e6 o6 => ?_
      have M6 := M5.ex e6 (by simpa using npo)
      have g6 := g5.ex e6 (by simpa using spo) (by simpa using cpo)
      walk_at "g2"
      refine k_me M6.G.og (by rfl) ?_
      walk_at "g2"
      rw [← List.map_set] at o6
      obtain ⟨w7, eh7, e7, d7⟩ := seal_lst o6 (Dvs.ints _)
      rw [← eh7]
      have M7 := M6.ex e7 (by simpa using npo)
      have g7 := g6.ex e7 (by simpa using spo) (by simpa using cpo)
      refine setouts_spec M7.G d7 fun w8 p e8 hp G8 => ?_
      walk_at "g2"
      have frpo : w.H po = none := (Ex.tt'' E2 e3 g.op).free hpo
      have E7 : Ex (T ++ [s, c]) w w7 := by
        have := ((Ex.tt'' E2 e3 g.op).t0 e4)
        have E5 : Ex (T ++ [s, c]) w w5 := this.trans e5 (fun b hb => .inl (List.mem_append_right _ hb))
        exact (E5.tf e6 frpo).tf e7 frpo
      have frp : w.H p = none := E7.free hp
      have nsg : s ≠ B.g := fun z => M.ns (.inl z)
      have ncg : c ≠ B.g := fun z => M.nc (.inl z)
      refine q w8 { B with ou := p } regs2 (ods.set at_.toNat l) (T ++ [s, c] ++ [B.g]) ((E7.more (U := T ++ [s, c] ++ [B.g]) (fun b hb => List.mem_append_left _ hb) (fun b hb => ?_)).trans e8 (by simp)) (fun b hb => ?_) (g7.ex e8 (by simpa using nsg) (by simpa using ncg)) rfl (fun b hb => ?_)
        ⟨G8, M7.W, M7.R, ?_, fun h => ?_, fun h => ?_⟩ hl2 (by rw [List.length_set])
      · rcases List.mem_append.mp hb with hb | hb
        · exact E7.op b hb
        · simp only [List.mem_singleton] at hb; subst hb; exact M.G.og.n
      · rcases List.mem_append.mp hb with hb | hb
        · rcases List.mem_append.mp hb with hb | hb
          · exact hT b hb
          · simp only [List.mem_cons, List.not_mem_nil, or_false] at hb
            rcases hb with rfl | rfl
            · exact .inl rfl
            · exact .inr (.inl rfl)
        · simp only [List.mem_singleton] at hb; subst hb; exact .inr (.inr (.inl rfl))
      · rcases hb with h | h | h | h | h
        · exact .inl (.inl h)
        · exact .inl (.inr (.inl h))
        · exact .inl (.inr (.inr (.inl h)))
        · exact .inr (by rw [show b = p from h]; exact frp)
        · exact .inl (.inr (.inr (.inr (.inr h))))
      · intro m hm
        rcases List.mem_or_eq_of_mem_set hm with hm | hm
        · exact M7.L m hm
        · subst hm; exact ⟨l0, by omega⟩
      · rcases h with h | h | h | h | h
        · exact M.ns (.inl h)
        · exact M.ns (.inr (.inl h))
        · exact M.ns (.inr (.inr (.inl h)))
        · exact g7.fs hp h
        · exact M.ns (.inr (.inr (.inr (.inr h))))
      · rcases h with h | h | h | h | h
        · exact M.nc (.inl h)
        · exact M.nc (.inr (.inl h))
        · exact M.nc (.inr (.inr (.inl h)))
        · exact g7.fc hp h
        · exact M.nc (.inr (.inr (.inr (.inr h))))
    · walk_at "g2"
      exact q w2 B regs2 ods T E2 hT g2 rfl (fun b hb => .inl hb) M2 hl2 rfl
  have done : N [some (.ref s), some (.ref B.g), some (.int ch), none, none] w1.H := rest w1 regs [s, c] none e1 (fun b hb => by
    simp only [List.mem_cons, List.not_mem_nil, or_false] at hb
    rcases hb with rfl | rfl
    · exact .inl rfl
    · exact .inr (.inl rfl)) g1 M1 rfl
  have G1 := M1.G
  refine k_ta (fun hz => ?_) fun _ => ?_
  · walk_at "g2"
    refine k_fl G1.og (by rfl) ?_
    walk_at "g2"
    obtain ⟨rv1, org1, drg1⟩ := G1.rg
    have lr1 : rv1.length = regs.length := by rw [drg1.length, List.length_map]
    refine f_lenO org1.h ?_
    walk_at "g2"
    rw [lr1]
    refine kif_d (fun hz => ?_) fun hz => ?_
    · walk_at "g2"
      refine k_fl G1.og (by rfl) ?_
      walk_at "g2"
      refine f_lenO org1.h ?_
      walk_at "g2"
      rw [lr1]
      refine take_spec g1 (by omega) (by omega) fun w3 at_ e3 g3 t0 t1 => ?_
      have M3 := M1.ex e3 hS
      obtain ⟨rv3, org3, drg3⟩ := M3.G.rg
      walk_at "g2"
      refine k_me M3.G.og (by rfl) ?_
      walk_at "g2"
      refine k_fl M3.G.og (by rfl) ?_
      walk_at "g2"
      refine i_OM (z := ((0, 0) : Int × Int)) (g := dp) org3.h drg3 (by omega) (by omega) fun u du => ?_
      walk_at "g2"
      refine i_T0 du ?_
      walk_at "g2"
      have hm := M.R _ (getD_memP (show at_.toNat < regs.length by omega))
      have hx := xor_rng (l := (regs.getD at_.toNat (0, 0)).1) (r := 1) hm.1.1 (by decide) (by decide) hm.1.2
      obtain ⟨atn, eat⟩ := Int.eq_ofNat_of_zero_le t0
      subst eat
      rw [Int.toNat_natCast] at hx hm ⊢
      refine setnext_spec (l := Builtin.bitXor (regs.getD atn (0, 0)).1 1) M3.G (by omega) fun w4 e4 G4 => ?_
      walk_at "g2"
      have nsr : s ∉ [B.rg] := by simp only [List.mem_singleton]; exact fun z => M.ns (.inr (.inl z))
      have ncr : c ∉ [B.rg] := by simp only [List.mem_singleton]; exact fun z => M.nc (.inr (.inl z))
      have E3 : Ex [s, c] w w3 := e1.tt e3
      refine rest w4 (regs.set atn (Builtin.bitXor (regs.getD atn (0, 0)).1 1, (regs.getD atn (0, 0)).2)) ([s, c] ++ [B.rg]) (some (.int (atn : Nat))) ((E3.more (U := [s, c] ++ [B.rg]) (fun b hb => List.mem_append_left _ hb) (fun b hb => ?_)).trans e4 (by simp)) (fun b hb => ?_) (g3.ex e4 nsr ncr) ⟨G4, by rw [List.length_set]; exact M.W, ?_, by rw [List.length_set]; exact M.L, M.ns, M.nc⟩ (by rw [List.length_set])
      · rcases List.mem_append.mp hb with hb | hb
        · exact E3.op b hb
        · simp only [List.mem_singleton] at hb; subst hb; exact org.n
      · rcases List.mem_append.mp hb with hb | hb
        · simp only [List.mem_cons, List.not_mem_nil, or_false] at hb
          rcases hb with rfl | rfl
          · exact .inl rfl
          · exact .inr (.inl rfl)
        · simp only [List.mem_singleton] at hb; subst hb; exact .inr (.inr (.inr (.inl rfl)))
      · rw [List.length_set]
        intro p hp
        rcases List.mem_or_eq_of_mem_set hp with hp | hp
        · exact M.R p hp
        · subst hp; exact ⟨hx, hm.2⟩
    · walk_at "g2"
      exact done
  · walk_at "g2"
    exact done
theorem pair_spec {outs most : Int} (hg : v.gv g_max_nodes = .int 4000) (g : Gen w s c) (hi : 0 ≤ inp) (hi1 : inp < 100) (ho0 : 0 < outs) (ho1 : outs < 100) (hm0 : 0 < most) (hm1 : most < 200)
    (q : ∀ w' p A1 regs1 ands1 ods1 A2 regs2 ands2 ods2, Ex [s, c] w w' → Gen w' s c → w'.H p = some (.tup [.ref A1.g, .ref A2.g]) → MG v w' A1 inp regs1 ands1 ods1 s c → MG v w' A2 inp regs2 ands2 ods2 s c → (∀ b, A1.has b → ¬ A2.has b) →
      regs1.length ≤ 3 → regs2.length ≤ 3 → (ands1.length : Int) ≤ 3 * most → (ands2.length : Int) ≤ 3 * most → (ods1.length : Int) = outs → (ods2.length : Int) = outs → Q (.ref p) w'.H) :
    spOf v D (n + 8) i_law_pair [.ref s, .int inp, .int outs, .int most] w.H Q E := by
  refine in_law_pair ?_
  unfold b_law_pair
  walk_at "g2"
  refine machine_spec hg g hi hi1 (by omega) (by omega) hm0 (by omega) fun w1 A1 regs1 ands1 ods1 E1 fr1 g1 G1 W1 R1 L1 hr1 ha1 ho1' ns1 nc1 => ?_
  have M1 : MG v w1 A1 inp regs1 ands1 ods1 s c := ⟨G1, W1, R1, L1, ns1, nc1⟩
  walk_at "g2"
  refine take_spec g1 (by decide) (by decide) fun w2 t e2 g2 t0 t1 => ?_
  have M2 := M1.ex e2 M1.sc
  walk_at "g2"
  refine kif_d (fun hz => ?_) fun hz => ?_
  · walk_at "g2"
    refine machine_spec hg g2 hi hi1 (by omega) (by omega) hm0 (by omega) fun w3 A2 regs2 ands2 ods2 E3 fr3 g3 G3 W3 R3 L3 hr3 ha3 ho3 ns3 nc3 => ?_
    have dis : ∀ b, A1.has b → ¬ A2.has b := fun b h1 h2 => M2.G.fresh (fr3 b h2) h1
    have M3 := M2.ex E3 M2.sc
    walk_at "g2"
    refine ⟨small_len (by simp), ?_⟩
    refine new_op fun w4 p e4 hp o4 => ?_
    exact q w4 p A1 regs1 ands1 ods1 A2 regs2 ands2 ods2 (((E1.tt e2).tt E3).t0 e4) (g3.ex0 e4) o4.h (M3.ex e4 (by simp)) (MG.ex e4 ⟨G3, W3, R3, L3, ns3, nc3⟩ (by simp)) dis hr1 hr3 ha1 ha3 ho1' ho3
  · walk_at "g2"
    obtain ⟨rv, org, drg⟩ := M2.G.rg
    refine k_fl M2.G.og (by rfl) ?_
    walk_at "g2"
    refine f_lenO org.h ?_
    walk_at "g2"
    rw [drg.length, List.length_map]
    refine bits_spec g2 (by omega) (by omega) fun w3 xF fl e3 g3 hfl bf dF => ?_
    have M3 := M2.ex e3 M2.sc
    walk_at "g2"
    refine lcopy_spec hg M3 (Gen.has g3).1 (Gen.has g3).2 dF bf (by omega) hi (by omega) (by omega) (by omega) fun w4 A2 regs2 ands2 ods2 e4 fr4 M4 hr4 ha4 ho4 => ?_
    have M14 := M3.ex e4 (by simp)
    have g4 := g3.ex0 e4
    have dis4 : ∀ b, A1.has b → ¬ A2.has b := fun b h1 h2 => M3.G.fresh (fr4 b h2) h1
    walk_at "g2"
    refine spoil_spec g4 M4 hi (by omega) (by omega) (by omega) (by omega) (by omega) fun w5 B regs3 ods3 T E5 hT g5 eB hB M5 hr5 ho5 => ?_
    have nT1 : ∀ b ∈ T, ¬ A1.has b := fun b hb h => by
      rcases hT b hb with z | z | z
      · subst z; exact ns1 h
      · subst z; exact nc1 h
      · exact dis4 b h z
    have M15 := M14.ex E5 nT1
    have dis5 : ∀ b, A1.has b → ¬ B.has b := fun b h1 h2 => by
      rcases hB b h2 with z | z
      · exact dis4 b h1 z
      · exact M14.G.fresh z h1
    have E4 : Ex [s, c] w w4 := ((E1.tt e2).tt e3).t0 e4
    have E5' : Ex [s, c] w w5 := E4.trans E5 (fun b hb => by
      rcases hT b hb with z | z | z
      · subst z; exact .inl (by simp)
      · subst z; exact .inl (by simp)
      · exact .inr (((E1.tt e2).tt e3).free (fr4 b z)))
    walk_at "g2"
    refine ⟨small_len (by simp), ?_⟩
    rw [← eB]
    refine new_op fun w6 p e6 hp o6 => ?_
    exact q w6 p A1 regs1 ands1 ods1 B regs3 ands2 ods3 (E5'.t0 e6) (g5.ex0 e6) o6.h (M15.ex e6 (by simp)) (M5.ex e6 (by simp)) dis5 hr1 (by omega) ha1 (by omega) ho1' (by omega)
end
section
variable {v : Ev} {n : Nat} {w : Wd} {A B : GA} {inp : Int} {regs1 ands1 regs2 ands2 : List (Int × Int)} {ods1 ods2 : List Int} {Q : VK} {E : XK} {s c : Addr}
theorem Cls.snoc {cl : List (Int × Int)} {p : Int × Int} (C : Cls cl) (h : (p.2 = 0 ∨ p.2 = 1) ∧ (p.1 = -1 ∨ (p.1 = cl.length ∧ p.2 = 0) ∨ (0 ≤ p.1 ∧ p.1 < cl.length))) : Cls (cl ++ [p]) := by
  intro i hi
  rcases Nat.lt_or_ge i cl.length with z | z
  · have e : (cl ++ [p]).getD i cz = cl.getD i cz := by rw [List.getD_eq_getElem?_getD, List.getElem?_append_left z, ← List.getD_eq_getElem?_getD]
    rw [e]; exact C i z
  · have ei : i = cl.length := by simp at hi; omega
    have e : (cl ++ [p]).getD i cz = p := by rw [List.getD_eq_getElem?_getD, List.getElem?_append_right z, ei]; simp
    rw [e, ei]; exact h
theorem regsum {K : PySem.W.Frag} {R : It → Hp → Prop} (M1 : MG v w A inp regs1 ands1 ods1 s c) (M2 : MG v w B inp regs2 ands2 ods2 s c) (hr1 : regs1.length ≤ 10) (hr2 : regs2.length ≤ 10) (q : ∀ w' z, Ex [] w w' → Dv w' z (.list ((regs1 ++ regs2).map dp)) → KLs K R z w'.H) : KB2 K .Add (.ref A.rg) (KLs K R) (.ref B.rg) w.H := by
  obtain ⟨rv1, o1, d1⟩ := M1.G.rg
  obtain ⟨rv2, o2, d2⟩ := M2.G.rg
  have l1 := d1.length
  have l2 := d2.length
  rw [List.length_map] at l1 l2
  refine o_addl o1.h o2.h (by rw [l1, l2, sizeLine_eq]; omega) (new_lst (ds := (regs1 ++ regs2).map dp) (by rw [List.map_append]; exact d1.app d2) fun w' z e d => q w' z e d)
theorem firsts_app (a b : List (Int × Int)) : firsts (a ++ b) = firsts a ++ firsts b := by unfold firsts; rw [List.map_append]
theorem paired_spec (M1 : MG v w A inp regs1 ands1 ods1 s c) (M2 : MG v w B inp regs2 ands2 ods2 s c) (hr1 : regs1.length ≤ 10) (hr2 : regs2.length ≤ 10)
    (q : ∀ w' z cl, Ex [] w w' → Dv w' z (cds cl) → Cls cl → cl.length = regs1.length + regs2.length → Q z w'.H) : spOf v D (n + 1) i_law_paired [.ref A.g, .ref B.g] w.H Q E := by
  refine in_law_paired ?_
  unfold b_law_paired
  walk_at "g2"
  obtain ⟨rv1, org1, drg1⟩ := M1.G.rg
  refine k_fl M1.G.og (by rfl) ?_
  walk_at "g2"
  refine f_lenO org1.h ?_
  walk_at "g2"
  rw [drg1.length, List.length_map]
  refine k_fl M1.G.og (by rfl) ?_
  walk_at "g2"
  refine k_fl M2.G.og (by rfl) ?_
  refine regsum M1 M2 hr1 hr2 fun w1 z1 e1 d1 => ?_
  refine k_lc_mk d1 (fun i => .int ((regs1 ++ regs2).getD i cz).2) (by rw [List.length_map, List.length_append]; omega) (fun i d y w' R hd e dy hR => ?_) fun w2 p2 zs e2 hp2 o2 r2 => ?_
  · obtain ⟨hi, rfl⟩ := get_map (z := cz) hd
    refine g_nm ?_
    refine k_mk1 rfl ?_
    walk_at "g2"
    refine i_T1 dy ?_
    exact hR w' _ (Ex.refl _) (.int _)
  rw [List.length_map] at r2
  have hz := r2.ints_of
  rw [range_map (z := cz) (fun p : Int × Int => p.2)] at hz
  subst hz
  obtain ⟨w3, eh3, e3, d3⟩ := seal_lst o2 (Dvs.ints _)
  rw [← eh3]
  have E3 : Ex [] w w3 := e1.t0 (e2.tf e3 hp2)
  have hb : Bs ((regs1 ++ regs2).map (·.2)) := by
    rw [List.map_append]
    intro x hx
    rcases List.mem_append.mp hx with hx | hx
    · exact firsts_bits M1.R x hx
    · exact firsts_bits M2.R x hx
  have lb : ((regs1 ++ regs2).map (·.2)).length = regs1.length + regs2.length := by simp
  generalize (regs1 ++ regs2).map (·.2) = bits at d3 hb lb
  walk_at "g2"
  refine k_r1 (by omega) (by omega) ?_
  refine k_lc_mkR regs1.length (by omega) (fun i => dp ((i : Int), 0)) (by omega) (fun i w' R hi e hR => ?_) fun w4 p zs e4 hp o4 r4 => ?_
  · refine g_nm ?_
    refine k_mk1 rfl ?_
    walk_at "g2"
    refine k_tup (by simp) (.cons (.int _) (.cons (.int _) .nil)) fun w5 y5 e5 d5 => ?_
    exact hR w5 y5 e5 d5
  have em : (List.range regs1.length).map (fun (i : Nat) => dp ((i : Int), 0)) = ((List.range regs1.length).map fun (i : Nat) => ((i : Int), (0 : Int))).map dp := by rw [List.map_map]; rfl
  rw [em] at r4
  have C0 : Cls ((List.range regs1.length).map fun (i : Nat) => ((i : Int), (0 : Int))) := fun i hi => by
    have hi : i < regs1.length := by simpa using hi
    have e : ((List.range regs1.length).map fun (i : Nat) => ((i : Int), (0 : Int))).getD i cz = ((i : Int), (0 : Int)) := by rw [List.getD_eq_getElem?_getD, List.getElem?_map, List.getElem?_range hi]; rfl
    rw [e]
    exact ⟨.inl rfl, .inr (.inl ⟨rfl, rfl⟩)⟩
  have l0 : ((List.range regs1.length).map fun (i : Nat) => ((i : Int), (0 : Int))).length = regs1.length := by simp
  generalize ((List.range regs1.length).map fun (i : Nat) => ((i : Int), (0 : Int))) = cl0 at r4 C0 l0
  have E4 := E3.t0 e4
  have frp : w.H p = none := E3.free hp
  have M24 := M2.ex E4 (by simp)
  obtain ⟨rv2, org2, drg2⟩ := M24.G.rg
  walk_at "g2"
  refine k_fl M24.G.og (by rfl) ?_
  walk_at "g2"
  refine f_lenO org2.h ?_
  walk_at "g2"
  rw [drg2.length, List.length_map]
  refine k_r1 (by omega) (by omega) ?_
  refine k_for_n regs2.length (by omega) (fun k σ w' => ∃ x3 a5 zs cl, σ = [some (.ref A.g), some (.ref B.g), some (.int (regs1.length : Nat)), some x3, some (.ref p), a5, none] ∧ Ex [] w w' ∧ Dv w' x3 (ids bits) ∧ Op w' p (.lst zs) ∧ Dvs w' zs (cl.map dp) ∧ Cls cl ∧ cl.length = regs1.length + k) ⟨_, _, _, cl0, rfl, E4, d3.ex e4, o4, r4, C0, by omega⟩ ?_ ?_
  · rintro k σ w' hk ⟨x3, a5, zs, cl, rfl, E', dB, o', dz, C, lcl⟩
    have lz := dz.length
    rw [List.length_map] at lz
    have addit : ∀ (pr : Int × Int) (N : St → Hp → Prop) (σ : St), ((pr.2 = 0 ∨ pr.2 = 1) ∧ (pr.1 = -1 ∨ (pr.1 = cl.length ∧ pr.2 = 0) ∨ (0 ≤ pr.1 ∧ pr.1 < cl.length))) → True := fun _ _ _ _ => trivial
    walk_at "g2"
    refine kif_d (fun h => ?_) fun h => ?_
    · walk_at "g2"
      refine k_m1 o'.h rfl ?_
      walk_at "g2"
      refine i_G dB (by omega) (by omega) ?_
      walk_at "g2"
      refine i_G dB (by omega) (by omega) ?_
      walk_at "g2"
      have xb := xor_bits (hb.get ((k : Int)).toNat) (hb.get (((regs1.length : Nat) : Int) + (k : Int)).toNat)
      refine k_tup (by simp) (.cons (.int _) (.cons (.int _) .nil)) fun w5 y5 e5 d5 => ?_
      walk_at "g2"
      refine m_app (o'.ex e5 (by simp)) (by rw [lz, sizeLine_eq]; omega) fun w6 e6 o6 => ?_
      walk_at "g2"
      refine k_is ⟨x3, _, _, cl ++ [((k : Int), Builtin.bitXor (bits.getD ((k : Int)).toNat 0) (bits.getD (((regs1.length : Nat) : Int) + (k : Int)).toNat 0))], rfl, (E'.t0 e5).tf e6 frp, (dB.ex e5).ex e6, o6, ?_, C.snoc ⟨xb, .inr (.inr ⟨by omega, by show (k : Int) < _; omega⟩)⟩, by simp; omega⟩
      rw [List.map_append]
      exact ((dz.ex e5).ex e6).app (.cons (d5.ex e6) .nil)
    · walk_at "g2"
      refine k_m1 o'.h rfl ?_
      walk_at "g2"
      refine k_tup (by simp) (.cons (.int _) (.cons (.int _) .nil)) fun w5 y5 e5 d5 => ?_
      walk_at "g2"
      refine m_app (o'.ex e5 (by simp)) (by rw [lz, sizeLine_eq]; omega) fun w6 e6 o6 => ?_
      walk_at "g2"
      refine k_is ⟨x3, _, _, cl ++ [(((regs1.length : Nat) : Int) + (k : Int), 0)], rfl, (E'.t0 e5).tf e6 frp, (dB.ex e5).ex e6, o6, ?_, C.snoc ⟨.inl rfl, .inr (.inl ⟨by show ((regs1.length : Nat) : Int) + (k : Int) = _; omega, rfl⟩)⟩, by simp; omega⟩
      rw [List.map_append]
      exact ((dz.ex e5).ex e6).app (.cons (d5.ex e6) .nil)
  · rintro σ w' ⟨x3, a5, zs, cl, rfl, E', dB, o', dz, C, lcl⟩
    walk_at "g2"
    obtain ⟨w5, eh5, e5, d5⟩ := seal_lst o' dz
    rw [← eh5]
    exact q w5 _ cl (E'.tf e5 frp) d5 C lcl
theorem classes_spec (g : Gen w s c) (M1 : MG v w A inp regs1 ands1 ods1 s c) (M2 : MG v w B inp regs2 ands2 ods2 s c) (hr1 : regs1.length ≤ 10) (hr2 : regs2.length ≤ 10)
    (q : ∀ w' z cl, Ex [s, c] w w' → Gen w' s c → Dv w' z (cds cl) → Cls cl → cl.length = regs1.length + regs2.length → Q z w'.H) : spOf v D (n + 2) i_law_classes [.ref s, .ref A.g, .ref B.g] w.H Q E := by
  refine in_law_classes ?_
  unfold b_law_classes
  walk_at "g2"
  refine k_fl M1.G.og (by rfl) ?_
  walk_at "g2"
  refine k_fl M2.G.og (by rfl) ?_
  refine regsum M1 M2 hr1 hr2 fun w1 z1 e1 d1 => ?_
  refine k_lc_mk d1 (fun i => .int ((regs1 ++ regs2).getD i cz).2) (by rw [List.length_map, List.length_append]; omega) (fun i d y w' R hd e dy hR => ?_) fun w2 p2 zs e2 hp2 o2 r2 => ?_
  · obtain ⟨hi, rfl⟩ := get_map (z := cz) hd
    refine g_nm ?_
    refine k_mk1 rfl ?_
    walk_at "g2"
    refine i_T1 dy ?_
    exact hR w' _ (Ex.refl _) (.int _)
  rw [List.length_map] at r2
  have hz := r2.ints_of
  rw [range_map (z := cz) (fun p : Int × Int => p.2)] at hz
  subst hz
  obtain ⟨w3, eh3, e3, d3⟩ := seal_lst o2 (Dvs.ints _)
  rw [← eh3]
  have E3 : Ex [] w w3 := e1.t0 (e2.tf e3 hp2)
  have hb : Bs ((regs1 ++ regs2).map (·.2)) := by
    rw [List.map_append]
    intro x hx
    rcases List.mem_append.mp hx with hx | hx
    · exact firsts_bits M1.R x hx
    · exact firsts_bits M2.R x hx
  have lb : ((regs1 ++ regs2).map (·.2)).length = regs1.length + regs2.length := by simp
  generalize (regs1 ++ regs2).map (·.2) = bits at d3 hb lb
  walk_at "g2"
  refine k_lstO (by simp) fun w4 p e4 hp o4 => ?_
  have E4 := E3.t0 e4
  have frp : w.H p = none := E3.free hp
  have sp := g.fs frp
  have cp := g.fc frp
  walk_at "g2"
  refine f_lenL (d3.ex e4) ?_
  walk_at "g2"
  rw [List.length_map]
  refine k_r1 (by omega) (by omega) ?_
  refine k_for_n bits.length (by omega) (fun k σ w' => ∃ x3 a5 a6 zs cl, σ = [some (.ref s), some (.ref A.g), some (.ref B.g), some x3, some (.ref p), a5, a6, none] ∧ Ex [s, c] w w' ∧ Gen w' s c ∧ Dv w' x3 (ids bits) ∧ Op w' p (.lst zs) ∧ Dvs w' zs (cl.map dp) ∧ Cls cl ∧ cl.length = k) ⟨_, _, _, _, [], rfl, E4.gen g, g.ex0 E4, d3.ex e4, o4, .nil, fun i h => by simp at h, rfl⟩ ?_ ?_
  · rintro k σ w' hk ⟨x3, a5, a6, zs, cl, rfl, E', g', dB, o', dz, C, lcl⟩
    walk_at "g2"
    refine take_spec g' (by omega) (by omega) fun w5 t e5 g5 t0 t1 => ?_
    have o5 := o'.ex e5 (by simp [Ne.symm sp, Ne.symm cp])
    have dz5 := dz.ex e5
    have dB5 := dB.ex e5
    have lz := dz.length
    rw [List.length_map] at lz
    walk_at "g2"
    generalize hN : Nx _ _ _ _ _ _ _ = N
    have rest : ∀ l : Int, -1 ≤ l → l ≤ k → N [some (.ref s), some (.ref A.g), some (.ref B.g), some x3, some (.ref p), some (.int (k : Nat)), some (.int l), none] w5.H := by
      intro l l0 l1
      subst hN
      walk_at "g2"
      refine kif_d (fun h => ?_) fun h => ?_
      · walk_at "g2"
        refine k_m1 o5.h rfl ?_
        walk_at "g2"
        refine k_tup (by simp) (.cons (.int _) (.cons (.int _) .nil)) fun w6 y6 e6 d6 => ?_
        walk_at "g2"
        refine m_app (o5.ex e6 (by simp)) (by rw [lz, sizeLine_eq]; omega) fun w7 e7 o7 => ?_
        walk_at "g2"
        refine k_is ⟨x3, _, _, _, cl ++ [((k : Int), 0)], rfl, ((E'.tt e5).t0 e6).tf e7 frp, (g5.ex0 e6).ex e7 (by simpa using sp) (by simpa using cp), (dB5.ex e6).ex e7, o7, ?_, C.snoc ⟨.inl rfl, .inr (.inl ⟨by rw [lcl], rfl⟩)⟩, by simp [lcl]⟩
        rw [List.map_append]
        exact ((dz5.ex e6).ex e7).app (.cons (d6.ex e7) .nil)
      · walk_at "g2"
        refine kif_d (fun h2 => ?_) fun h2 => ?_
        · walk_at "g2"
          refine k_m1 o5.h rfl ?_
          walk_at "g2"
          refine i_G dB5 (by omega) (by omega) ?_
          walk_at "g2"
          refine k_tup (by simp) (.cons (.int _) (.cons (.int _) .nil)) fun w6 y6 e6 d6 => ?_
          walk_at "g2"
          refine m_app (o5.ex e6 (by simp)) (by rw [lz, sizeLine_eq]; omega) fun w7 e7 o7 => ?_
          walk_at "g2"
          refine k_is ⟨x3, _, _, _, cl ++ [(-1, bits.getD ((k : Int)).toNat 0)], rfl, ((E'.tt e5).t0 e6).tf e7 frp, (g5.ex0 e6).ex e7 (by simpa using sp) (by simpa using cp), (dB5.ex e6).ex e7, o7, ?_, C.snoc ⟨hb.get _, .inl rfl⟩, by simp [lcl]⟩
          rw [List.map_append]
          exact ((dz5.ex e6).ex e7).app (.cons (d6.ex e7) .nil)
        · walk_at "g2"
          refine k_m1 o5.h rfl ?_
          walk_at "g2"
          refine i_G dB5 (by omega) (by omega) ?_
          walk_at "g2"
          refine i_G dB5 (by omega) (by omega) ?_
          walk_at "g2"
          have xb := xor_bits (hb.get ((k : Int)).toNat) (hb.get l.toNat)
          refine k_tup (by simp) (.cons (.int _) (.cons (.int _) .nil)) fun w6 y6 e6 d6 => ?_
          walk_at "g2"
          refine m_app (o5.ex e6 (by simp)) (by rw [lz, sizeLine_eq]; omega) fun w7 e7 o7 => ?_
          walk_at "g2"
          refine k_is ⟨x3, _, _, _, cl ++ [(l, Builtin.bitXor (bits.getD ((k : Int)).toNat 0) (bits.getD l.toNat 0))], rfl, ((E'.tt e5).t0 e6).tf e7 frp, (g5.ex0 e6).ex e7 (by simpa using sp) (by simpa using cp), (dB5.ex e6).ex e7, o7, ?_, C.snoc ⟨xb, .inr (.inr ⟨by show 0 ≤ l; omega, by show l < _; omega⟩)⟩, by simp [lcl]⟩
          rw [List.map_append]
          exact ((dz5.ex e6).ex e7).app (.cons (d6.ex e7) .nil)
    have asis := rest (t - 1) (by omega) (by omega)
    refine k_ta (fun h => ?_) fun _ => ?_
    · have h := of_decide_eq_true h
      walk_at "g2"
      refine k_ta (fun h2 => ?_) fun _ => ?_
      · have h2 := of_decide_eq_true h2
        walk_at "g2"
        refine i_OM (g := dp) (z := cz) o5.h dz5 h (by omega) fun u du => ?_
        walk_at "g2"
        refine i_T0 du ?_
        walk_at "g2"
        refine kif_n (fun _ => ?_) fun _ => ?_
        · walk_at "g2"
          exact rest k (by omega) (by omega)
        · walk_at "g2"
          exact asis
      · walk_at "g2"
        exact asis
    · walk_at "g2"
      exact asis
  · rintro σ w' ⟨x3, a5, a6, zs, cl, rfl, E', g', dB, o', dz, C, lcl⟩
    walk_at "g2"
    obtain ⟨w5, eh5, e5, d5⟩ := seal_lst o' dz
    rw [← eh5]
    exact q w5 _ cl (E'.tf e5 frp) (g'.ex e5 (by simpa using sp) (by simpa using cp)) d5 C (by omega)
end
/-! ### kinds of rows -/
section
variable {v : Ev} {n N : Nat} {w : Wd} {x : V} {Q : VK} {E : XK}
def isBoolD : PyData → Bool
  | .bool _ => true
  | _ => false
def isLD : PyData → Bool
  | .list _ => true
  | _ => false
def isTD : PyData → Bool
  | .tuple _ => true
  | _ => false
theorem k_int (d : PyData) : kitB (kindN d) "int" = some (isIntD d || isBoolD d) := by cases d <;> rfl
theorem k_bool (d : PyData) : kitB (kindN d) "bool" = some (isBoolD d) := by cases d <;> rfl
theorem k_list (d : PyData) : kitB (kindN d) "list" = some (isLD d) := by cases d <;> rfl
theorem k_tuple (d : PyData) : kitB (kindN d) "tuple" = some (isTD d) := by cases d <;> rfl
theorem row_none {d : PyData} (h : rowOf d = none) : isLD d = false ∧ isTD d = false := by cases d <;> first | exact ⟨rfl, rfl⟩ | cases h
theorem row_some {b : Bool} {ds : List PyData} : isLD (rw_ b ds) = !b ∧ isTD (rw_ b ds) = b := by cases b <;> exact ⟨rfl, rfl⟩
theorem kta_row {W : WX} {σ : St} {i : Nat} {b c : Bool} {ds : List PyData} {P : Bool → Hp → Prop} (hσ : σ[i]? = some (some x)) (hx : Dv w x (rw_ b ds)) (hc : c = b) (h : P false w.H) : KTA v (.not (.tr (.bc .isi (.cons (.v i) (.cons (.ty "tuple") .nil))))) W σ P c w.H := by
  subst hc
  refine k_ta (fun hb => ?_) fun _ => h
  walk_at "g5"
  refine e_v ?_
  rw [hσ]
  refine k_v ?_
  walk_at "g5"
  refine ty_of hx "tuple" _ (k_tuple _) ?_
  rw [(row_some (b := c) (ds := ds)).2, hb]
  walk_at "g5"
  exact h
end
section
variable {v : Ev} {n N : Nat} {w : Wd} {x y : V} {Q : VK} {E : XK} {cl : List (Int × Int)} {bits : List Int}
theorem lpr_spec {i : Nat} (dx : Dc w x cl) (dy : Dv w y (ids bits)) (hlen : bits.length = cl.length) (hi : i < cl.length) (hl : cl.length < 1000) (q : ∀ w', Ex [] w w' → Q (.bl (prB cl bits i)) w'.H) : spOf v D (N + 1) i_law_pair_right [x, .int (i : Nat), y] w.H Q E := by
  refine in_law_pair_right ?_
  unfold b_law_pair_right
  walk_at "g5"
  refine i_C dx (by omega) (by omega) fun u du => ?_
  rw [Int.toNat_natCast] at du
  unfold prB at q
  generalize hp : cl.getD i cz = p at du q
  walk_at "g5"
  refine i_C0 du ?_
  walk_at "g5"
  refine i_C1 du ?_
  walk_at "g5"
  refine k_lstO (by simp) fun w1 p1 e1 hp1 o1 => ?_
  refine c_nin_l (xs := [.int 0, .int 1]) o1.h rfl rfl ?_
  have q1 : ∀ b : Bool, (∀ w', Ex [] w w' → Q (.bl b) w'.H) → Q (.bl b) w1.H := fun b h => h w1 e1
  have dx1 := dx.ex e1
  have dy1 := dy.ex e1
  have hin : inV (.int p.2) [.int 0, .int 1] = decide (p.2 ∈ [(0 : Int), 1]) := inV_ints (xs := [0, 1])
  rw [hin]
  refine k_to (fun h => ?_) fun h => ?_
  · have h : p.2 ≠ 0 ∧ p.2 ≠ 1 := by simpa using h
    rw [if_pos h] at q
    walk_at "g5"
    exact q w1 e1
  have h : ¬ (p.2 ≠ 0 ∧ p.2 ≠ 1) := by
    intro z
    have : decide (p.2 ∈ [(0 : Int), 1]) = false := decide_eq_false (by simp [z.1, z.2])
    rw [this] at h; cases h
  rw [if_neg h] at q
  walk_at "g5"
  refine k_to (fun h2 => ?_) fun h2 => ?_
  · have h2 := of_decide_eq_true h2
    rw [if_neg (by omega), if_pos (.inl (by omega))] at q
    walk_at "g5"
    exact q w1 e1
  have h2 := of_decide_eq_false h2
  walk_at "g5"
  refine kif_d (fun h3 => ?_) fun h3 => ?_
  · rw [if_neg (by omega), if_pos (.inr h3)] at q
    walk_at "g5"
    exact q w1 e1
  walk_at "g5"
  refine kif_d (fun h4 => ?_) fun h4 => ?_
  · rw [if_pos h4] at q
    walk_at "g5"
    refine i_G dy1 (by omega) (by omega) ?_
    rw [Int.toNat_natCast]
    walk_at "g5"
    exact q w1 e1
  rw [if_neg h4, if_neg (by omega)] at q
  walk_at "g5"
  refine kif_d (fun h5 => ?_) fun h5 => ?_
  · rw [if_pos h5] at q
    walk_at "g5"
    exact q w1 e1
  rw [if_neg h5] at q
  walk_at "g5"
  refine i_C dx1 (by omega) (by omega) fun u2 du2 => ?_
  walk_at "g5"
  refine i_C0 du2 ?_
  walk_at "g5"
  refine k_and (fun h6 => ?_) fun h6 => ?_
  · have h6 := of_decide_eq_true h6
    rw [if_neg (fun z => z h6)] at q
    walk_at "g5"
    refine i_G dy1 (by omega) (by omega) ?_
    rw [Int.toNat_natCast]
    walk_at "g5"
    refine i_G dy1 (by omega) (by omega) ?_
    walk_at "g5"
    exact q w1 e1
  · have h6 := of_decide_eq_false h6
    rw [if_pos h6] at q
    exact q w1 e1
theorem lright_spec {d : PyData} (dx : Dv w x d) (dy : Dv w y (ids bits)) (hl : bits.length < 1000) (q : ∀ w', Ex [] w w' → Q (.bl (acB d bits)) w'.H) : spOf v D (N + 2) i_law_right [x, y] w.H Q E := by
  refine in_law_right ?_
  unfold b_law_right
  walk_at "g5"
  refine ty_of dx "list" _ (k_list d) ?_
  have qf : acB d bits = false → ∀ w', Ex [] w w' → Q (.bl false) w'.H := fun h w' e => by rw [← h]; exact q w' e
  cases hr : rowOf d with
  | none =>
    have hs : acB d bits = false := by unfold acB clsOf; rw [hr]
    obtain ⟨h1, h2⟩ := row_none hr
    rw [h1]
    walk_at "g5"
    refine ty_of dx "tuple" _ (k_tuple d) ?_
    rw [h2]
    walk_at "g5"
    exact qf hs w (Ex.refl w)
  | some pr =>
  obtain ⟨b, ds⟩ := pr
  have e : d = rw_ b ds := rowOf_some hr
  subst e
  have hcl : clsOf (rw_ b ds) = if ds.all (fun e => (pairOf e).isSome) = true then some (clsL ds) else none := by unfold clsOf; rw [hr]
  obtain ⟨h1, h2⟩ := row_some (b := b) (ds := ds)
  rw [h1]
  walk_at "g5"
  refine kta_row rfl dx (by simp) ?_
  walk_at "g5"
  refine f_lenRow dx ?_
  walk_at "g5"
  refine f_lenL dy ?_
  rw [List.length_map]
  walk_at "g5"
  refine kif_n (fun h => ?_) fun h => ?_
  · walk_at "g5"
    refine qf ?_ w (Ex.refl w)
    unfold acB
    rw [hcl]
    split
    · rename_i cl e
      split at e
      · cases e
        rw [clsL_len, decide_eq_false (by intro z; rw [z] at h; exact h rfl)] <;> rfl
      · cases e
    · rfl
  have hlen : ds.length = bits.length := by
    have h : ((ds.length : Nat) : Int) = ((bits.length : Nat) : Int) := by simpa using h
    omega
  walk_at "g5"
  refine for_row rfl dx (fun i σ w' => w' = w ∧ (∃ a2 a3, σ = [some x, some y, a2, a3, none]) ∧ (ds.take i).all (fun e => (pairOf e).isSome) = true) (fun i σ w' h => ⟨[], by rw [h.1]; exact Ex.refl w⟩) ⟨rfl, ⟨_, _, rfl⟩, by simp⟩ ?_ ?_
  · rintro i d u σ w' hd du ⟨rfl, ⟨a2, a3, rfl⟩, hall⟩
    have tk : ds.take (i + 1) = ds.take i ++ [d] := by rw [List.take_add_one, hd]; rfl
    have bad : pairOf d = none → acB (rw_ b ds) bits = false := fun hz => by
      have : ¬ ds.all (fun e => (pairOf e).isSome) = true := fun h => by
        have := List.all_eq_true.mp h d (List.mem_of_getElem? hd)
        rw [hz] at this; cases this
      unfold acB
      rw [hcl, if_neg this]
    walk_at "g5"
    refine ty_of du "list" _ (k_list d) ?_
    cases hr2 : rowOf d with
    | none =>
      obtain ⟨g1, g2⟩ := row_none hr2
      rw [g1]
      walk_at "g5"
      refine ty_of du "tuple" _ (k_tuple d) ?_
      rw [g2]
      walk_at "g5"
      exact qf (bad (by unfold pairOf intsOf; rw [hr2])) _ (Ex.refl _)
    | some pr2 =>
    obtain ⟨b2, es⟩ := pr2
    have e2 : d = rw_ b2 es := rowOf_some hr2
    have hints : intsOf d = if es.all isIntD = true then some (b2, es.map toI) else none := by unfold intsOf; rw [hr2]
    rw [e2] at du
    obtain ⟨g1, g2⟩ := row_some (b := b2) (ds := es)
    rw [e2, g1]
    walk_at "g5"
    refine kta_row rfl du (by simp) ?_
    walk_at "g5"
    refine f_lenRow du ?_
    walk_at "g5"
    refine kif_n (fun h => ?_) fun h => ?_
    · walk_at "g5"
      refine qf (bad ?_) _ (Ex.refl _)
      unfold pairOf
      rw [hints]
      split
      · rename_i b' l f e
        split at e
        · have e3 := congrArg List.length (Prod.mk.inj (Option.some.inj e)).2
          rw [List.length_map] at e3
          exact absurd (by rw [e3]; rfl) h
        · cases e
      · rfl
    have hl2 : es.length = 2 := by
      have h : ((es.length : Nat) : Int) = 2 := by simpa using h
      omega
    walk_at "g5"
    refine for_row rfl du (fun j σ w'' => w'' = w' ∧ (∃ a3, σ = [some x, some y, some u, a3, none]) ∧ (es.take j).all isIntD = true) (fun i σ w'' h => ⟨[], by rw [h.1]; exact Ex.refl w'⟩) ⟨rfl, ⟨_, rfl⟩, by simp⟩ ?_ ?_
    · rintro j e3 z σ w'' hj dz ⟨rfl, ⟨a3, rfl⟩, ha⟩
      have tk2 : es.take (j + 1) = es.take j ++ [e3] := by rw [List.take_add_one, hj]; rfl
      have no : isIntD e3 = false → Q (.bl false) w''.H := fun hz => by
        have : ¬ es.all isIntD = true := fun h => by
          have := List.all_eq_true.mp h e3 (List.mem_of_getElem? hj)
          rw [hz] at this; cases this
        refine qf (bad ?_) _ (Ex.refl _)
        unfold pairOf
        rw [hints, if_neg this]
      walk_at "g5"
      refine ty_of dz "int" _ (k_int e3) ?_
      cases hz : isIntD e3 with
      | true =>
        have hb : isBoolD e3 = false := by cases e3 <;> first | rfl | cases hz
        rw [hb]
        walk_at "g5"
        refine k_to (fun h => by simp at h) fun _ => ?_
        walk_at "g5"
        refine ty_of dz "bool" _ (k_bool e3) ?_
        rw [hb]
        walk_at "g5"
        refine k_is ⟨rfl, ⟨_, rfl⟩, ?_⟩
        rw [tk2, List.all_append, ha]
        simp [hz]
      | false =>
        cases hb : isBoolD e3 with
        | true =>
          walk_at "g5"
          refine k_to (fun h => by simp at h) fun _ => ?_
          walk_at "g5"
          refine ty_of dz "bool" _ (k_bool e3) ?_
          rw [hb]
          walk_at "g5"
          exact no hz
        | false =>
          walk_at "g5"
          exact no hz
    · rintro σ w'' ⟨rfl, ⟨a3, rfl⟩, ha⟩
      rw [List.take_length] at ha
      walk_at "g5"
      refine k_is ⟨rfl, ⟨_, _, rfl⟩, ?_⟩
      have hp : (pairOf d).isSome = true := by
        unfold pairOf
        rw [hints, if_pos ha]
        match es, hl2 with
        | [_, _], _ => rfl
      rw [tk, List.all_append, hall]
      simp [hp]
  rintro σ w' ⟨rfl, ⟨a2, a3, rfl⟩, hall⟩
  rw [List.take_length] at hall
  rw [if_pos hall] at hcl
  have dC := Dc.row dx hall
  have hcl2 : acB (rw_ b ds) bits = (List.range (clsL ds).length).all (prB (clsL ds) bits) := by
    unfold acB
    rw [hcl]
    dsimp only
    rw [decide_eq_true (by rw [clsL_len]; exact hlen), Bool.true_and]
  have lcl := clsL_len ds
  generalize clsL ds = cl at dC hcl2 lcl
  rw [hcl2] at q
  walk_at "g5"
  refine f_lenL dy ?_
  rw [List.length_map, ← hlen, ← lcl]
  walk_at "g5"
  refine k_r1 (by omega) (by omega) ?_
  refine k_lc_n cl.length (by omega) fun w1 D0 e1 hD o1 => ⟨fun i w'' => Ex [] w' w'' ∧ Op w'' D0 (.lst (((List.range i).filter fun k => !prB cl bits k).map fun k : Nat => V.int (k : Int))), ⟨e1, o1⟩, ?_, ?_⟩
  · rintro i w2 hi ⟨E2, o2⟩
    have hfl : ((List.range i).filter fun k => !prB cl bits k).length ≤ i := Nat.le_trans (List.length_filter_le _ _) (by simp)
    refine g_nm ?_
    dsimp only [wipe, List.set_cons_zero, List.set_cons_succ]
    refine k_lb1 rfl ?_
    walk_at "g5"
    refine lpr_spec (dC.ex E2) (dy.ex E2) (by omega) hi (by omega) fun w3 e3 => ?_
    have o3 := o2.ex e3 (by simp)
    have hs : (List.range (i + 1)).filter (fun k => !prB cl bits k) = (List.range i).filter (fun k => !prB cl bits k) ++ (if (!prB cl bits i) = true then [i] else []) := by
      rw [List.range_succ, List.filter_append]
      congr 1
      by_cases z : (!prB cl bits i) = true
      · rw [if_pos z, List.filter_cons_of_pos (by simpa using z)]; rfl
      · rw [if_neg z, List.filter_cons_of_neg (by simpa using z)]; rfl
    walk_at "g5"
    refine k_ld (w := w3) (fun h => ?_) fun h => ?_
    · walk_at "g5"
      refine k_ap o3 (by rw [List.length_map, sizeLine_eq]; omega) fun w4 e4 o4 => ⟨(E2.t0 e3).tf e4 hD, ?_⟩
      rw [hs, if_pos h, List.map_append]
      exact o4
    · refine ⟨E2.t0 e3, ?_⟩
      rw [hs, if_neg (by rw [h]; decide), List.append_nil]
      exact o3
  · rintro w2 ⟨E2, o2⟩
    walk_at "g5"
    refine f_lenO o2.h ?_
    rw [List.length_map]
    walk_at "g5"
    have : decide ((((List.range cl.length).filter fun k => !prB cl bits k).length : Int) = 0) = (List.range cl.length).all (prB cl bits) := by
      by_cases z : (List.range cl.length).all (prB cl bits) = true
      · have hz : (List.range cl.length).filter (fun k => !prB cl bits k) = [] := List.filter_eq_nil_iff.mpr fun k hk => by
          have := List.all_eq_true.mp z k hk
          simp [this]
        rw [z, hz]; rfl
      · have z0 : (List.range cl.length).all (prB cl bits) = false := by simpa using z
        rw [z0]
        refine decide_eq_false fun h => z ?_
        have hz : ((List.range cl.length).filter fun k => !prB cl bits k) = [] := List.length_eq_zero_iff.mp (by omega)
        exact List.all_eq_true.mpr fun k hk => by
          have := List.filter_eq_nil_iff.mp hz k hk
          simpa using this
    rw [this]
    exact q w2 E2
end
/-! ### strange values, bent classes -/
def thg : List PyData := [.none, .bool true, .str (S []), .str (S [97, 98]), .int 0, .int (-2), .int 7, .list [], .tuple [], .list [.int 0], .tuple [.int 0, .int 0, .int 0], .list [.int 0, .int 1], .tuple [.int 1, .int 1], .dict [], .dict [(.int 1, .int 2)], .tuple [.bool true, .bool false]]
def syB (p n : Nat) (d : PyData) : Bool := d.showable && decide (d.depth ≤ p) && decide (d.shown.length ≤ n)
theorem sy_of {p n : Nat} {d : PyData} (h : syB p n d = true) : Sy p n d := by
  unfold syB at h
  rw [Bool.and_eq_true, Bool.and_eq_true] at h
  exact ⟨h.1.1, of_decide_eq_true h.1.2, of_decide_eq_true h.2⟩
theorem thg_ok {d : PyData} (h : d ∈ thg) : Sy 2 60 d := by
  have h1 : thg.all (syB 2 60) = true := by decide +kernel
  exact sy_of (List.all_eq_true.mp h1 d h)
def ClB (cl : List (Int × Int)) : Prop := cl.length ≤ 20 ∧ ∀ p ∈ cl, p.1.natAbs ≤ 1000 ∧ p.2.natAbs ≤ 1000
theorem sy_two {b : Bool} {i j : Int} (hi : i.natAbs ≤ 2000) (hj : j.natAbs ≤ 2000) : Sy 2 60 (rw_ b [.int i, .int j]) := by
  have h : ∀ e ∈ [PyData.int i, .int j], Sy 0 19 e := by simp [Sy.of (Sz.int (i := i) (by omega)), Sy.of (Sz.int (i := j) (by omega))]
  cases b with
  | true => exact (Sy.tup (m := 2) h (by simp)).mono (by decide) (by decide)
  | false => exact (Sy.list (m := 2) h (by simp)).mono (by decide) (by decide)
theorem sy_cl {cl : List (Int × Int)} (h : ClB cl) {e : PyData} (he : e ∈ cl.map dp) : Sy 2 60 e := by
  obtain ⟨p, hp, rfl⟩ := List.mem_map.mp he
  have := h.2 p hp
  exact sy_two (b := true) (by omega) (by omega)
theorem sy_row {b : Bool} {ds : List PyData} (h : ∀ e ∈ ds, Sy 2 60 e) (hl : ds.length ≤ 100) : Sy 5 20000 (rw_ b ds) := by
  cases b with
  | true => exact (Sy.tup (m := 100) h hl).mono (by decide) (by decide)
  | false => exact (Sy.list (m := 100) h hl).mono (by decide) (by decide)
theorem sy_parts {cl : List (Int × Int)} (h : ClB cl) {k m : Nat} {mid : List PyData} (hm : ∀ e ∈ mid, Sy 2 60 e) (hl : mid.length ≤ 1) : Sy 5 20000 (.list ((cl.map dp).take k ++ mid ++ (cl.map dp).drop m)) := by
  refine sy_row (b := false) (fun e he => ?_) ?_
  · rcases List.mem_append.mp he with he | he
    · rcases List.mem_append.mp he with he | he
      · exact sy_cl h (List.mem_of_mem_take he)
      · exact hm e he
    · exact sy_cl h (List.mem_of_mem_drop he)
  · have := h.1
    rw [List.length_append, List.length_append, List.length_take, List.length_drop, List.length_map]
    omega
section
variable {v : Ev} {n N : Nat} {w : Wd} {x : V} {Q : VK} {E : XK} {s c : Addr}
theorem strange_spec (g : Gen w s c) (q : ∀ w' z d, Ex [s, c] w w' → Gen w' s c → d ∈ thg → Dv w' z d → Q z w'.H) : spOf v D (N + 2) i_law_strange [.ref s] w.H Q E := by
  refine in_law_strange ?_
  unfold b_law_strange
  walk_at "g5"
  refine k_lst (ds := []) (by simp) .nil fun w1 x1 e1 d1 => ?_
  walk_at "g5"
  refine k_tup (ds := []) (by simp) .nil fun w2 x2 e2 d2 => ?_
  walk_at "g5"
  refine k_lst (ds := [.int 0]) (by simp) (.cons (.int _) .nil) fun w3 x3 e3 d3 => ?_
  walk_at "g5"
  refine k_tup (ds := [.int 0, .int 0, .int 0]) (by simp) (.cons (.int _) (.cons (.int _) (.cons (.int _) .nil))) fun w4 x4 e4 d4 => ?_
  walk_at "g5"
  refine k_lst (ds := [.int 0, .int 1]) (by simp) (.cons (.int _) (.cons (.int _) .nil)) fun w5 x5 e5 d5 => ?_
  walk_at "g5"
  refine k_tup (ds := [.int 1, .int 1]) (by simp) (.cons (.int _) (.cons (.int _) .nil)) fun w6 x6 e6 d6 => ?_
  walk_at "g5"
  refine new_op fun w11 p11 e11 h11 o11 => ?_
  obtain ⟨w12, hw12, e12, d12⟩ := seal_dK (ds := []) o11 .nil
  rw [← hw12]
  walk_at "g5"
  refine k_di fun w13 p13 e13 h13 o13 => ?_
  walk_at "g5"
  refine ⟨o13.h, [(.inl 1, .int 2)], rfl, by show (1 : Nat) ≤ 15; omega, ?_⟩
  have o14 : Op (w13.put p13 (.dK (mergeK [] [(.inl 1, .int 2)]))) p13 (.dK [(.inl 1, .int 2)]) := op_set o13
  have e14 := ex_set (o := .dK (mergeK [] [(.inl 1, .int 2)])) o13
  show KAs _ _ _ _ _ _ (w13.put p13 (.dK (mergeK [] [(.inl 1, .int 2)]))).H
  generalize w13.put p13 (.dK (mergeK [] [(.inl 1, .int 2)])) = w14 at o14 e14
  obtain ⟨w15, hw15, e15, d15⟩ := seal_dK (ds := [.int 2]) o14 (.cons (.int _) .nil)
  rw [← hw15]
  walk_at "g5"
  refine k_tup (ds := [.bool true, .bool false]) (by simp) (.cons (.bl _) (.cons (.bl _) .nil)) fun w16 x16 e16 d16 => ?_
  have X15 : Ex [] w15 w16 := e16
  have X12 : Ex [] w12 w16 := ((e13.tf e14 h13).tf e15 h13).t0 e16
  have X6 := (e11.tf e12 h11).t0 X12
  have X5 := e6.t0 X6
  have X4 := e5.t0 X5
  have X3 := e4.t0 X4
  have X2 := e3.t0 X3
  have X1 := e2.t0 X2
  have X0 := e1.t0 X1
  walk_at "g5"
  refine k_lst (ds := thg) (by simp) (.cons .non (.cons (.bl _) (.cons (.str _) (.cons (.str _) (.cons (.int _) (.cons (.int _) (.cons (.int _) (.cons (d1.ex X1) (.cons (d2.ex X2) (.cons (d3.ex X3) (.cons (d4.ex X4) (.cons (d5.ex X5) (.cons (d6.ex X6) (.cons (d12.ex X12) (.cons (d15.ex X15) (.cons d16 .nil)))))))))))))))) fun w17 x17 e17 d17 => ?_
  have X17 := X0.t0 e17
  walk_at "g5"
  refine take_spec (g.ex0 X17) (by decide) (by decide) fun w18 k e18 g18 k0 k1 => ?_
  have hk : k.toNat < thg.length := by show k.toNat < 16; omega
  walk_at "g5"
  refine i_L (d := thg[k.toNat]) (d17.ex e18) k0 (List.getElem?_eq_getElem hk) fun y dy => ?_
  walk_at "g5"
  exact q w18 y _ ((X17.gen g).tt e18) g18 (List.getElem_mem hk) dy
theorem bent_spec {cl : List (Int × Int)} (g : Gen w s c) (dx : Dv w x (.list (cl.map dp))) (h : ClB cl) (q : ∀ w' z d, Ex [s, c] w w' → Gen w' s c → Sy 5 20000 d → Dv w' z d → Q z w'.H) : spOf v D (N + 3) i_law_bent [.ref s, x] w.H Q E := by
  have hl20 := h.1
  refine in_law_bent ?_
  unfold b_law_bent
  walk_at "g5"
  refine take_spec g (by decide) (by decide) fun w1 ch e1 g1 c0 c1 => ?_
  have dx1 := dx.ex e1
  have strange : spOf v D (N + 2) i_law_strange [.ref s] w1.H Q E := strange_spec g1 fun w2 z d e2 g2 hd dz => q w2 z d (e1.tt e2) g2 ((thg_ok hd).mono (by decide) (by decide)) dz
  walk_at "g5"
  refine k_to (fun hz => ?_) fun hz => ?_
  · walk_at "g5"
    refine strange_spec g1 fun w2 z d e2 g2 hd dz => ?_
    walk_at "g5"
    exact q w2 z d (e1.tt e2) g2 ((thg_ok hd).mono (by decide) (by decide)) dz
  walk_at "g5"
  refine f_lenL dx1 ?_
  rw [List.length_map]
  walk_at "g5"
  refine kif_d (fun hz => ?_) fun hz => ?_
  · walk_at "g5"
    refine strange_spec g1 fun w2 z d e2 g2 hd dz => ?_
    walk_at "g5"
    exact q w2 z d (e1.tt e2) g2 ((thg_ok hd).mono (by decide) (by decide)) dz
  walk_at "g5"
  refine f_lenL dx1 ?_
  rw [List.length_map]
  walk_at "g5"
  refine take_spec g1 (by omega) (by omega) fun w2 k0 e2 g2 k00 k01 => ?_
  obtain ⟨k, rfl⟩ := Int.eq_ofNat_of_zero_le k00
  have hk : k < cl.length := by omega
  have hk1 : ((k : Nat) : Int) + 1 = ((k + 1 : Nat) : Int) := by omega
  have dx3 := dx1.ex e2
  have E3 := e1.tt e2
  have g3 := g2
  obtain ⟨p, hp⟩ : ∃ p, cl[k]? = some p := ⟨_, List.getElem?_eq_getElem hk⟩
  have hpm := h.2 p (List.mem_of_getElem? hp)
  walk_at "g5"
  refine i_L (d := dp p) dx3 (by omega) (by rw [Int.toNat_natCast, List.getElem?_map, hp]; rfl) fun y dy => ?_
  refine k_tg ?_
  refine g_ii dy ?_
  have GP : ∀ {mid : List PyData} {a b : Nat}, (∀ e ∈ mid, Sy 2 60 e) → mid.length ≤ 1 → Sy 5 20000 (.list ((cl.map dp).take a ++ mid ++ (cl.map dp).drop b)) := fun hm hl => sy_parts h hm hl
  have lS : (cl.map dp).length = cl.length := by simp
  have lcl : ∀ {e}, e ∈ cl.map dp → Sy 2 60 e := fun he => sy_cl h he
  generalize hSS : cl.map dp = SS at dx3 lS GP lcl
  walk_at "g5"
  refine kif_d (fun _ => ?_) fun _ => ?_
  · walk_at "g5"
    refine k_scD dx3 fun w4 z4 e4 d4 => ?_
    rw [cut_take] at d4
    have E4 := E3.t0 e4
    have g4 := g3.ex0 e4
    have x_4 := dx3.ex e4
    walk_at "g5"
    refine k_tup (ds := [.int p.1, .int (1 - p.2)]) (by simp) (.cons (.int _) (.cons (.int _) .nil)) fun w5 z5 e5 d5 => ?_
    have E5 := E4.t0 e5
    have g5 := g4.ex0 e5
    have x_5 := x_4.ex e5
    have A_5 := d4.ex e5
    walk_at "g5"
    refine k_lst (ds := [.tuple [.int p.1, .int (1 - p.2)]]) (by simp) (.cons d5 .nil) fun w6 z6 e6 d6 => ?_
    have E6 := E5.t0 e6
    have g6 := g5.ex0 e6
    have x_6 := x_5.ex e6
    have A_6 := A_5.ex e6
    have T_6 := d5.ex e6
    walk_at "g5"
    refine o_addL A_6 d6 (by simp only [List.length_append, List.length_take, List.length_drop, List.length_cons, List.length_nil, sizeLine_eq]; omega) fun w7 z7 e7 d7 => ?_
    have E7 := E6.t0 e7
    have g7 := g6.ex0 e7
    have x_7 := x_6.ex e7
    have A_7 := A_6.ex e7
    have M_7 := d6.ex e7
    walk_at "g5"
    rw [hk1]
    refine k_scD x_7 fun w8 z8 e8 d8 => ?_
    rw [cut_drop] at d8
    have E8 := E7.t0 e8
    have g8 := g7.ex0 e8
    have x_8 := x_7.ex e8
    have AM_8 := d7.ex e8
    walk_at "g5"
    refine o_addL AM_8 d8 (by simp only [List.length_append, List.length_take, List.length_drop, List.length_cons, List.length_nil, sizeLine_eq]; omega) fun w9 z9 e9 d9 => ?_
    have E9 := E8.t0 e9
    have g9 := g8.ex0 e9
    have x_9 := x_8.ex e9
    have AM_9 := AM_8.ex e9
    have C_9 := d8.ex e9
    walk_at "g5"
    exact q w9 _ _ E9 g9 (GP (fun e he => by rw [List.mem_singleton.mp he]; exact sy_two (b := true) (by omega) (by omega)) (by simp)) d9
  walk_at "g5"
  refine kif_d (fun _ => ?_) fun _ => ?_
  · walk_at "g5"
    refine k_scD dx3 fun w4 z4 e4 d4 => ?_
    rw [cut_take] at d4
    have E4 := E3.t0 e4
    have g4 := g3.ex0 e4
    have x_4 := dx3.ex e4
    walk_at "g5"
    refine f_lenL x_4 ?_
    rw [lS]
    walk_at "g5"
    refine take_spec g4 (by omega) (by omega) fun w5 u5 e5 g5 u0 u1 => ?_
    have E5 := E4.tt e5
    have x_5 := x_4.ex e5
    have A_5 := d4.ex e5
    walk_at "g5"
    refine k_tup (ds := [.int (u5 - 1), .int p.2]) (by simp) (.cons (.int _) (.cons (.int _) .nil)) fun w6 z6 e6 d6 => ?_
    have E6 := E5.t0 e6
    have g6 := g5.ex0 e6
    have x_6 := x_5.ex e6
    have A_6 := A_5.ex e6
    walk_at "g5"
    refine k_lst (ds := [.tuple [.int (u5 - 1), .int p.2]]) (by simp) (.cons d6 .nil) fun w7 z7 e7 d7 => ?_
    have E7 := E6.t0 e7
    have g7 := g6.ex0 e7
    have x_7 := x_6.ex e7
    have A_7 := A_6.ex e7
    have T_7 := d6.ex e7
    walk_at "g5"
    refine o_addL A_7 d7 (by simp only [List.length_append, List.length_take, List.length_drop, List.length_cons, List.length_nil, sizeLine_eq]; omega) fun w8 z8 e8 d8 => ?_
    have E8 := E7.t0 e8
    have g8 := g7.ex0 e8
    have x_8 := x_7.ex e8
    have A_8 := A_7.ex e8
    have M_8 := d7.ex e8
    walk_at "g5"
    rw [hk1]
    refine k_scD x_8 fun w9 z9 e9 d9 => ?_
    rw [cut_drop] at d9
    have E9 := E8.t0 e9
    have g9 := g8.ex0 e9
    have x_9 := x_8.ex e9
    have AM_9 := d8.ex e9
    walk_at "g5"
    refine o_addL AM_9 d9 (by simp only [List.length_append, List.length_take, List.length_drop, List.length_cons, List.length_nil, sizeLine_eq]; omega) fun w10 z10 e10 d10 => ?_
    have E10 := E9.t0 e10
    have g10 := g9.ex0 e10
    have x_10 := x_9.ex e10
    have AM_10 := AM_9.ex e10
    have C_10 := d9.ex e10
    walk_at "g5"
    exact q w10 _ _ E10 g10 (GP (fun e he => by rw [List.mem_singleton.mp he]; exact sy_two (b := true) (by omega) (by omega)) (by simp)) d10
  walk_at "g5"
  refine kif_d (fun _ => ?_) fun _ => ?_
  · walk_at "g5"
    refine k_scD dx3 fun w4 z4 e4 d4 => ?_
    rw [cut_take] at d4
    have E4 := E3.t0 e4
    have g4 := g3.ex0 e4
    have x_4 := dx3.ex e4
    walk_at "g5"
    rw [hk1]
    refine k_scD x_4 fun w5 z5 e5 d5 => ?_
    rw [cut_drop] at d5
    have E5 := E4.t0 e5
    have g5 := g4.ex0 e5
    have x_5 := x_4.ex e5
    have A_5 := d4.ex e5
    walk_at "g5"
    refine o_addL A_5 d5 (by simp only [List.length_append, List.length_take, List.length_drop, List.length_cons, List.length_nil, sizeLine_eq]; omega) fun w6 z6 e6 d6 => ?_
    have E6 := E5.t0 e6
    have g6 := g5.ex0 e6
    have x_6 := x_5.ex e6
    have A_6 := A_5.ex e6
    have C_6 := d5.ex e6
    walk_at "g5"
    exact q w6 _ _ E6 g6 (by have := GP (mid := []) (a := k) (b := k + 1) (by simp) (by simp); simpa using this) d6
  walk_at "g5"
  refine kif_d (fun _ => ?_) fun _ => ?_
  · walk_at "g5"
    refine k_scD dx3 fun w4 z4 e4 d4 => ?_
    rw [cut_take] at d4
    have E4 := E3.t0 e4
    have g4 := g3.ex0 e4
    have x_4 := dx3.ex e4
    walk_at "g5"
    refine strange_spec g4 fun w5 z5 D5 e5 g5 hD5 d5 => ?_
    have E5 := E4.tt e5
    have x_5 := x_4.ex e5
    have A_5 := d4.ex e5
    walk_at "g5"
    refine k_lst (ds := [D5]) (by simp) (.cons d5 .nil) fun w6 z6 e6 d6 => ?_
    have E6 := E5.t0 e6
    have g6 := g5.ex0 e6
    have x_6 := x_5.ex e6
    have A_6 := A_5.ex e6
    have S_6 := d5.ex e6
    walk_at "g5"
    refine o_addL A_6 d6 (by simp only [List.length_append, List.length_take, List.length_drop, List.length_cons, List.length_nil, sizeLine_eq]; omega) fun w7 z7 e7 d7 => ?_
    have E7 := E6.t0 e7
    have g7 := g6.ex0 e7
    have x_7 := x_6.ex e7
    have A_7 := A_6.ex e7
    have M_7 := d6.ex e7
    walk_at "g5"
    rw [hk1]
    refine k_scD x_7 fun w8 z8 e8 d8 => ?_
    rw [cut_drop] at d8
    have E8 := E7.t0 e8
    have g8 := g7.ex0 e8
    have x_8 := x_7.ex e8
    have AM_8 := d7.ex e8
    walk_at "g5"
    refine o_addL AM_8 d8 (by simp only [List.length_append, List.length_take, List.length_drop, List.length_cons, List.length_nil, sizeLine_eq]; omega) fun w9 z9 e9 d9 => ?_
    have E9 := E8.t0 e9
    have g9 := g8.ex0 e9
    have x_9 := x_8.ex e9
    have AM_9 := AM_8.ex e9
    have C_9 := d8.ex e9
    walk_at "g5"
    exact q w9 _ _ E9 g9 (GP (fun e he => by rw [List.mem_singleton.mp he]; exact thg_ok hD5) (by simp)) d9
  walk_at "g5"
  refine kif_d (fun _ => ?_) fun _ => ?_
  · walk_at "g5"
    refine k_lc_mk dx3 (fun i => .list [.int (cl.getD i cz).1, .int (cl.getD i cz).2]) (by omega) (fun i d y w' R hd e dy hR => ?_) fun w4 p4 zs e4 hp4 o4 r4 => ?_
    · rw [← hSS, List.getElem?_map] at hd
      obtain ⟨pp, hpp, rfl⟩ := Option.map_eq_some_iff.mp hd
      have hgp : cl.getD i cz = pp := by rw [List.getD_eq_getElem?_getD, hpp]; rfl
      rw [hgp] at hR
      refine g_nm ?_
      dsimp only [wipe, List.set_cons_zero, List.set_cons_succ]
      refine k_mk1 rfl ?_
      walk_at "g5"
      refine f_lstT dy fun w5 y5 e5 d5 => ?_
      exact hR w5 y5 e5 d5
    walk_at "g5"
    refine f_tupO o4.h r4 fun w5 y5 e5 d5 => ?_
    walk_at "g5"
    refine q w5 y5 _ ((E3.t0 e4).t0 e5) ((g3.ex0 e4).ex0 e5) (sy_row (b := true) (fun e he => ?_) (by simp; omega)) d5
    obtain ⟨i, hi, rfl⟩ := List.mem_map.mp he
    have hi : i < cl.length := by have := List.mem_range.mp hi; omega
    have hm := h.2 (cl.getD i cz) (getD_memP hi)
    exact sy_two (b := false) (by omega) (by omega)
  walk_at "g5"
  exact q w2 _ _ E3 g3 (by have := GP (mid := []) (a := SS.length) (b := SS.length) (by simp) (by simp); simpa using this) dx3
end
/-! ### ways that meet again -/
theorem kif_gen2 {v : Ev} {W : WX} {σ : St} {H : Hp} {nx bk ct : St → Hp → Prop} {rt : VK} {c : Bool} {a : Sms} (G : St → Hp → Prop) (ha : c = true → ∀ nx' : St → Hp → Prop, (∀ s h, G s h → nx' s h) → a.den v W ⟨nx', rt, bk, ct⟩ σ H) (hb : c = false → G σ H) (h : ∀ s h, G s h → nx s h) :
    KIf v a .nil W ⟨nx, rt, bk, ct⟩ σ c H := by
  cases c with
  | true => exact kif_t (ha rfl nx h)
  | false =>
    refine kif_f ?_
    walk_at "g5"
    exact h _ _ (hb rfl)
abbrev LEVEL : Nat := 12
theorem k_tupO {w : Wd} {xs : List V} {Q : VK} (hl : xs.length ≤ 1000) (h : ∀ w' p, Ex [] w w' → w.H p = none → Op w' p (.tup xs) → Q (.ref p) w'.H) : KTup Q xs w.H := ⟨small_len hl, new_op h⟩
theorem clb_of {cl : List (Int × Int)} (C : Cls cl) (hl : cl.length ≤ 20) : ClB cl := by
  refine ⟨hl, fun p hp => ?_⟩
  obtain ⟨i, hi, rfl⟩ := List.getElem_of_mem hp
  have := C i hi
  have e : cl.getD i cz = cl[i] := by rw [List.getD_eq_getElem?_getD, List.getElem?_eq_getElem hi]; rfl
  rw [e] at this
  omega
theorem law_ok (v : Ev) (hx : XT v exL exB exsub) (hg : v.gv g_max_nodes = .int 4000) (H : Hp) (a : Addr) (ns : List Int) (hl : ns.length ≤ 63) (hS : SqL v.K H a (ns.map V.int)) : spOf v D LEVEL i_law [.ref a] H (fun v _ => v = .bl true) fun _ _ _ => False := by
  show spOf v D LEVEL i_law [.ref a] (Wd.of H).H _ _
  refine in_law ?_
  unfold b_law
  walk_at "g5"
  refine state_spec hS hl fun w1 s c e1 g1 => ?_
  walk_at "g5"
  refine pair_spec (inp := ((1 : Nat) : Int)) hg g1 (by omega) (by omega) (by omega) (by omega) (by decide) (by decide) fun w4 p A1 regs1 ands1 ods1 A2 regs2 ands2 ods2 E4 g4 hp M1 M2 dis hr1 hr2 ha1 ha2 ho1 ho2 => ?_
  refine k_tg ?_
  refine g_tupR hp rfl ?_
  walk_at "g5"
  refine paired_spec M1 M2 (by omega) (by omega) fun w5 z5 cl e5 d5 C5 l5 => ?_
  have g5 := g4.ex0 e5
  walk_at "g5"
  refine take_spec g5 (by decide) (by decide) fun w6 t e6 g6 t0 t1 => ?_
  have M16 := (M1.ex e5 (by simp)).ex e6 M1.sc
  have M26 := (M2.ex e5 (by simp)).ex e6 M2.sc
  have d6 := d5.ex e6
  walk_at "g5"
  refine kif_gen2 (fun σ H => ∃ w' z cl, H = w'.H ∧ σ = [some (.ref a), some (.ref s), some z, none, none, none, none, some (.ref A1.g), some (.ref A2.g), none] ∧ Gen w' s c ∧ MG v w' A1 ((1 : Nat) : Int) regs1 ands1 ods1 s c ∧ MG v w' A2 ((1 : Nat) : Int) regs2 ands2 ods2 s c ∧ Dv w' z (cds cl) ∧ ClB cl) (fun _ nx' hn => ?_) (fun _ => ⟨w6, z5, cl, rfl, rfl, g6, M16, M26, d6, clb_of C5 (by omega)⟩) ?_
  · walk_at "g5"
    refine classes_spec g6 M16 M26 (by omega) (by omega) fun w7 z7 cl7 e7 g7 d7 C7 l7 => ?_
    walk_at "g5"
    exact hn _ _ ⟨w7, z7, cl7, rfl, rfl, g7, M16.ex e7 M16.sc, M26.ex e7 M26.sc, d7, clb_of C7 (by omega)⟩
  clear d6 M16 M26 g6 e6 g5 d5 C5 l5
  rintro σ H ⟨w7, z7, cl, rfl, rfl, g7, M17, M27, d7, CB⟩
  walk_at "g5"
  refine bent_spec g7 d7 CB fun w8 z8 d e8 g8 sy dz => ?_
  have M18 := M17.ex e8 M17.sc
  have M28 := M27.ex e8 M27.sc
  walk_at "g5"
  refine k_fl M18.G.og (by rfl) ?_
  walk_at "g5"
  refine k_fl M28.G.og (by rfl) ?_
  refine regsum M18 M28 (by omega) (by omega) fun w9 z9 e9 d9 => ?_
  refine k_lc_mk d9 (fun i => .int ((regs1 ++ regs2).getD i cz).2) (by rw [List.length_map, List.length_append]; omega) (fun i d y w' R hd e dy hR => ?_) fun w10 p10 zs e10 hp10 o10 r10 => ?_
  · obtain ⟨hi, rfl⟩ := get_map (z := cz) hd
    refine g_nm ?_
    refine k_mk1 rfl ?_
    walk_at "g5"
    refine i_T1 dy ?_
    exact hR w' _ (Ex.refl _) (.int _)
  rw [List.length_map] at r10
  have hz := r10.ints_of
  rw [range_map (z := cz) (fun p : Int × Int => p.2)] at hz
  subst hz
  obtain ⟨w11, eh11, e11, d11⟩ := seal_lst o10 (Dvs.ints _)
  rw [← eh11]
  have E11 : Ex [] w8 w11 := e9.t0 (e10.tf e11 hp10)
  have ef : (regs1 ++ regs2).map (·.2) = firsts regs1 ++ firsts regs2 := by unfold firsts; rw [List.map_append]
  rw [ef] at d11
  have M111 := M18.ex E11 (by simp)
  have M211 := M28.ex E11 (by simp)
  have dz11 := dz.ex E11
  have or_ : ∀ {f : Int} {ands regs : List (Int × Int)}, Regs f ands regs → f < 1000 → ands.length < 1000 → regs.length ≤ 20 → Sy 5 20000 (.list (regs.map dp)) := fun R hf hl hr => by
    refine (sy_row (b := false) (fun e he => ?_) (by simpa using (by omega)))
    obtain ⟨p, hp, rfl⟩ := List.mem_map.mp he
    have := R p hp
    have h1 : Sy 0 19 (.int p.1) := Sy.of (Sz.int (by omega))
    have h2 : Sy 0 19 (.int p.2) := Sy.of (Sz.int (by rcases this.2 with e | e <;> rw [e] <;> decide))
    exact (Sy.tup (p := 0) (n := 19) (m := 2) (by simp [h1, h2]) (by simp)).mono (by decide) (by decide)
  have szf : Sy 6 200000 (.tuple [d, .list (regs1.map dp), .list (regs2.map dp)]) := (Sy.tup (p := 5) (n := 20000) (m := 3) (by simp [sy, or_ M111.R (by omega) (by omega) (by omega), or_ M211.R (by omega) (by omega) (by omega)]) (by simp)).mono (by decide) (by decide)
  walk_at "g5"
  refine k_fl M111.G.og (by rfl) ?_
  walk_at "g5"
  refine k_fl M211.G.og (by rfl) ?_
  walk_at "g5"
  refine k_tupO (by simp) fun w12 p12 e12 hp12 o12 => ?_
  have M112 := M111.ex e12 (by simp)
  have M212 := M211.ex e12 (by simp)
  obtain ⟨rv1, or1, dr1⟩ := M112.G.rg
  obtain ⟨rv2, or2, dr2⟩ := M212.G.rg
  have dz12 := dz11.ex e12
  have d12 := d11.ex e12
  walk_at "g5"
  refine f_reprY (d := .tuple [d, .list (regs1.map dp), .list (regs2.map dp)]) (.tup (sqT o12.h) (.cons dz12.dp (.cons (or1.dp dr1) (.cons (or2.dp dr2) .nil)))) szf (by decide) (by decide) ?_
  walk_at "g5"
  refine areany_spec M112 M212 (by omega) (by omega) dz12 fun w13 e13 => ?_
  have M113 := M112.ex e13 (by simp)
  have M213 := M212.ex e13 (by simp)
  have dz13 := dz12.ex e13
  have d13 := d12.ex e13
  generalize hr : acB d (firsts regs1 ++ firsts regs2) = r
  walk_at "g5"
  refine f_reprS (.bl _) (Sz.bool r) (by decide) (by decide) ?_
  walk_at "g5"
  refine lright_spec dz13 d13 (by simp [firsts]; omega) fun w14 e14 => ?_
  rw [hr]
  have M114 := M113.ex e14 (by simp)
  have M214 := M213.ex e14 (by simp)
  have dz14 := dz13.ex e14
  walk_at "g5"
  refine f_reprS (.bl _) (Sz.bool r) (by decide) (by decide) ?_
  walk_at "g5"
  refine k_fl M114.G.og (by rfl) ?_
  walk_at "g5"
  refine k_fl M214.G.og (by rfl) ?_
  walk_at "g5"
  refine k_tupO (by simp) fun w15 p15 e15 hp15 o15 => ?_
  have M115 := M114.ex e15 (by simp)
  have M215 := M214.ex e15 (by simp)
  obtain ⟨rv3, or3, dr3⟩ := M115.G.rg
  obtain ⟨rv4, or4, dr4⟩ := M215.G.rg
  walk_at "g5"
  refine f_reprY (d := .tuple [d, .list (regs1.map dp), .list (regs2.map dp)]) (.tup (sqT o15.h) (.cons (dz14.ex e15).dp (.cons (or3.dp dr3) (.cons (or4.dp dr4) .nil)))) szf (by decide) (by decide) ?_
  walk_at "g5"
  all_goals rfl
end LK

namespace LK
open L2 DI
open PySem.Spec
open PyProof.Rows hiding St
open PySem

abbrev s_x2 : Stmt := inClass (topS 3) 0
/-- the reading's environment -/
def evOf (K : PySem.W.Frag) (C : List Addr) (G : List V) : Ev := ⟨K, fun i => C.getD i 0, fun i => G.getD i .non, fun _ _ _ _ _ => False, exL, none⟩
theorem fin {l : PySem.W.OpenLaw} {w : World} {K : PySem.W.Frag} {h : Heap} {mg : Str → Option Value} {fa : Addr} {f0 f1 f2 f3 f4 f5 f6 f7 f8 f9 f10 f11 f12 f13 f14 f15 f16 f17 f18 f19 f20 f21 f22 f23 f24 f25 f26 f27 f28 f29 f30 f31 f32 f33 C0 X2 : Addr}
    {gt0 : Tok}
    (X : K.In h) (G : h.Ns mainGlobals mg) (hfa : mg "law" = some (.ref fa))
    {od0 an0 : Option Addr} {sl0 : Array (Option Value)} {oc0 kV0 dc0 pm0 cd0 ct0 : Value}
    {od1 an1 : Option Addr} {sl1 : Array (Option Value)} {oc1 kV1 dc1 pm1 cd1 ct1 : Value}
    {od2 an2 : Option Addr} {sl2 : Array (Option Value)} {oc2 kV2 dc2 pm2 cd2 ct2 : Value}
    {od3 an3 : Option Addr} {sl3 : Array (Option Value)} {oc3 kV3 dc3 pm3 cd3 ct3 : Value}
    {od4 an4 : Option Addr} {sl4 : Array (Option Value)} {oc4 kV4 dc4 pm4 cd4 ct4 : Value}
    {od5 an5 : Option Addr} {sl5 : Array (Option Value)} {oc5 kV5 dc5 pm5 cd5 ct5 : Value}
    {od6 an6 : Option Addr} {sl6 : Array (Option Value)} {oc6 kV6 dc6 pm6 cd6 ct6 : Value}
    {od7 an7 : Option Addr} {sl7 : Array (Option Value)} {oc7 kV7 dc7 pm7 cd7 ct7 : Value}
    {od8 an8 : Option Addr} {sl8 : Array (Option Value)} {oc8 kV8 dc8 pm8 cd8 ct8 : Value}
    {od9 an9 : Option Addr} {sl9 : Array (Option Value)} {oc9 kV9 dc9 pm9 cd9 ct9 : Value}
    {od10 an10 : Option Addr} {sl10 : Array (Option Value)} {oc10 kV10 dc10 pm10 cd10 ct10 : Value}
    {od11 an11 : Option Addr} {sl11 : Array (Option Value)} {oc11 kV11 dc11 pm11 cd11 ct11 : Value}
    {od12 an12 : Option Addr} {sl12 : Array (Option Value)} {oc12 kV12 dc12 pm12 cd12 ct12 : Value}
    {od13 an13 : Option Addr} {sl13 : Array (Option Value)} {oc13 kV13 dc13 pm13 cd13 ct13 : Value}
    {od14 an14 : Option Addr} {sl14 : Array (Option Value)} {oc14 kV14 dc14 pm14 cd14 ct14 : Value}
    {od15 an15 : Option Addr} {sl15 : Array (Option Value)} {oc15 kV15 dc15 pm15 cd15 ct15 : Value}
    {od16 an16 : Option Addr} {sl16 : Array (Option Value)} {oc16 kV16 dc16 pm16 cd16 ct16 : Value}
    {od17 an17 : Option Addr} {sl17 : Array (Option Value)} {oc17 kV17 dc17 pm17 cd17 ct17 : Value}
    {od18 an18 : Option Addr} {sl18 : Array (Option Value)} {oc18 kV18 dc18 pm18 cd18 ct18 : Value}
    {od19 an19 : Option Addr} {sl19 : Array (Option Value)} {oc19 kV19 dc19 pm19 cd19 ct19 : Value}
    {od20 an20 : Option Addr} {sl20 : Array (Option Value)} {oc20 kV20 dc20 pm20 cd20 ct20 : Value}
    {od21 an21 : Option Addr} {sl21 : Array (Option Value)} {oc21 kV21 dc21 pm21 cd21 ct21 : Value}
    {od22 an22 : Option Addr} {sl22 : Array (Option Value)} {oc22 kV22 dc22 pm22 cd22 ct22 : Value}
    {od23 an23 : Option Addr} {sl23 : Array (Option Value)} {oc23 kV23 dc23 pm23 cd23 ct23 : Value}
    {od24 an24 : Option Addr} {sl24 : Array (Option Value)} {oc24 kV24 dc24 pm24 cd24 ct24 : Value}
    {od25 an25 : Option Addr} {sl25 : Array (Option Value)} {oc25 kV25 dc25 pm25 cd25 ct25 : Value}
    {od26 an26 : Option Addr} {sl26 : Array (Option Value)} {oc26 kV26 dc26 pm26 cd26 ct26 : Value}
    {od27 an27 : Option Addr} {sl27 : Array (Option Value)} {oc27 kV27 dc27 pm27 cd27 ct27 : Value}
    {od28 an28 : Option Addr} {sl28 : Array (Option Value)} {oc28 kV28 dc28 pm28 cd28 ct28 : Value}
    {od29 an29 : Option Addr} {sl29 : Array (Option Value)} {oc29 kV29 dc29 pm29 cd29 ct29 : Value}
    {od30 an30 : Option Addr} {sl30 : Array (Option Value)} {oc30 kV30 dc30 pm30 cd30 ct30 : Value}
    {od31 an31 : Option Addr} {sl31 : Array (Option Value)} {oc31 kV31 dc31 pm31 cd31 ct31 : Value}
    {od32 an32 : Option Addr} {sl32 : Array (Option Value)} {oc32 kV32 dc32 pm32 cd32 ct32 : Value}
    {od33 an33 : Option Addr} {sl33 : Array (Option Value)} {oc33 kV33 dc33 pm33 cd33 ct33 : Value}
    {R NR : Addr} {nmR qqR : Str} {bsR subR : List Value} {snR : List Str} {abR : Bool} {colR : Option Bool} {xdR : Option Addr} {xm0_R xm1_R xm2_R xm3_R xm5_R : Option Value}
    {N2 I2 cc2 cda2 : Addr} {nm2 qq2 qu2 file2 : Str} {bs2 sub2 : List Value} {sn2 : List Str} {ab2 : Bool} {col2 : Option Bool} {xd2 xan2 xod2 xcd2 xld2 : Option Addr} {xm0_2 xm1_2 xm2_2 xm3_2 xm5_2 : Option Value} {xkV2 xdc2 xpm2 xct2 xoc2 xcl2 xl2 : Value} {xos2 xcs2 xsl2 : Array (Option Value)} {xvs2 : Array Value} {xtf2 : Tok}
    (a0 : PySem.W.nsIn K mainGlobals "_wall" = some (some (.ref f0)))
    (l0 : K.lookup f0 = some ⟨oc0, od0, .func (PySem.W.fnOf "_wall" "_wall" (defArgs s_wall) (defBody s_wall) (defScope s_wall) .none kV0 dc0 pm0 an0 cd0 ct0), sl0⟩)
    (c0 : PySem.W.codeIn K cd0 "_wall" = true)
    (k0 : PySem.W.keepIn K (.ref f0) = true)
    (a1 : PySem.W.nsIn K mainGlobals "negated" = some (some (.ref f1)))
    (l1 : K.lookup f1 = some ⟨oc1, od1, .func (PySem.W.fnOf "negated" "negated" (defArgs s_negated) (defBody s_negated) (defScope s_negated) .none kV1 dc1 pm1 an1 cd1 ct1), sl1⟩)
    (c1 : PySem.W.codeIn K cd1 "negated" = true)
    (k1 : PySem.W.keepIn K (.ref f1) = true)
    (a2 : PySem.W.findIn K (.ref C0) "__init__" = some (some (.ref f2)))
    (i2 : PySem.W.isFn K (.ref f2) = true)
    (l2 : K.lookup f2 = some ⟨oc2, od2, .func (PySem.W.fnOf "__init__" "Graph.__init__" (defArgs s_Graph_init) (defBody s_Graph_init) (defScope s_Graph_init) .none kV2 dc2 pm2 an2 cd2 ct2), sl2⟩)
    (c2 : PySem.W.codeIn K cd2 "Graph.__init__" = true)
    (k2 : PySem.W.keepIn K (.ref f2) = true)
    (a3 : PySem.W.findIn K (.ref C0) "input_literal" = some (some (.ref f3)))
    (i3 : PySem.W.isFn K (.ref f3) = true)
    (l3 : K.lookup f3 = some ⟨oc3, od3, .func (PySem.W.fnOf "input_literal" "Graph.input_literal" (defArgs s_Graph_input_literal) (defBody s_Graph_input_literal) (defScope s_Graph_input_literal) .none kV3 dc3 pm3 an3 cd3 ct3), sl3⟩)
    (c3 : PySem.W.codeIn K cd3 "Graph.input_literal" = true)
    (k3 : PySem.W.keepIn K (.ref f3) = true)
    (a4 : PySem.W.findIn K (.ref C0) "register_literal" = some (some (.ref f4)))
    (i4 : PySem.W.isFn K (.ref f4) = true)
    (l4 : K.lookup f4 = some ⟨oc4, od4, .func (PySem.W.fnOf "register_literal" "Graph.register_literal" (defArgs s_Graph_register_literal) (defBody s_Graph_register_literal) (defScope s_Graph_register_literal) .none kV4 dc4 pm4 an4 cd4 ct4), sl4⟩)
    (c4 : PySem.W.codeIn K cd4 "Graph.register_literal" = true)
    (k4 : PySem.W.keepIn K (.ref f4) = true)
    (a5 : PySem.W.findIn K (.ref C0) "node_count" = some (some (.ref f5)))
    (i5 : PySem.W.isFn K (.ref f5) = true)
    (l5 : K.lookup f5 = some ⟨oc5, od5, .func (PySem.W.fnOf "node_count" "Graph.node_count" (defArgs s_Graph_node_count) (defBody s_Graph_node_count) (defScope s_Graph_node_count) .none kV5 dc5 pm5 an5 cd5 ct5), sl5⟩)
    (c5 : PySem.W.codeIn K cd5 "Graph.node_count" = true)
    (k5 : PySem.W.keepIn K (.ref f5) = true)
    (a6 : PySem.W.findIn K (.ref C0) "conjunction" = some (some (.ref f6)))
    (i6 : PySem.W.isFn K (.ref f6) = true)
    (l6 : K.lookup f6 = some ⟨oc6, od6, .func (PySem.W.fnOf "conjunction" "Graph.conjunction" (defArgs s_Graph_conjunction) (defBody s_Graph_conjunction) (defScope s_Graph_conjunction) .none kV6 dc6 pm6 an6 cd6 ct6), sl6⟩)
    (c6 : PySem.W.codeIn K cd6 "Graph.conjunction" = true)
    (k6 : PySem.W.keepIn K (.ref f6) = true)
    (a7 : PySem.W.findIn K (.ref C0) "disjunction" = some (some (.ref f7)))
    (i7 : PySem.W.isFn K (.ref f7) = true)
    (l7 : K.lookup f7 = some ⟨oc7, od7, .func (PySem.W.fnOf "disjunction" "Graph.disjunction" (defArgs s_Graph_disjunction) (defBody s_Graph_disjunction) (defScope s_Graph_disjunction) .none kV7 dc7 pm7 an7 cd7 ct7), sl7⟩)
    (c7 : PySem.W.codeIn K cd7 "Graph.disjunction" = true)
    (k7 : PySem.W.keepIn K (.ref f7) = true)
    (a8 : PySem.W.findIn K (.ref C0) "exclusive" = some (some (.ref f8)))
    (i8 : PySem.W.isFn K (.ref f8) = true)
    (l8 : K.lookup f8 = some ⟨oc8, od8, .func (PySem.W.fnOf "exclusive" "Graph.exclusive" (defArgs s_Graph_exclusive) (defBody s_Graph_exclusive) (defScope s_Graph_exclusive) .none kV8 dc8 pm8 an8 cd8 ct8), sl8⟩)
    (c8 : PySem.W.codeIn K cd8 "Graph.exclusive" = true)
    (k8 : PySem.W.keepIn K (.ref f8) = true)
    (a9 : PySem.W.findIn K (.ref C0) "choice" = some (some (.ref f9)))
    (i9 : PySem.W.isFn K (.ref f9) = true)
    (l9 : K.lookup f9 = some ⟨oc9, od9, .func (PySem.W.fnOf "choice" "Graph.choice" (defArgs s_Graph_choice) (defBody s_Graph_choice) (defScope s_Graph_choice) .none kV9 dc9 pm9 an9 cd9 ct9), sl9⟩)
    (c9 : PySem.W.codeIn K cd9 "Graph.choice" = true)
    (k9 : PySem.W.keepIn K (.ref f9) = true)
    (a10 : PySem.W.findIn K (.ref C0) "set_next" = some (some (.ref f10)))
    (i10 : PySem.W.isFn K (.ref f10) = true)
    (l10 : K.lookup f10 = some ⟨oc10, od10, .func (PySem.W.fnOf "set_next" "Graph.set_next" (defArgs s_Graph_set_next) (defBody s_Graph_set_next) (defScope s_Graph_set_next) .none kV10 dc10 pm10 an10 cd10 ct10), sl10⟩)
    (c10 : PySem.W.codeIn K cd10 "Graph.set_next" = true)
    (k10 : PySem.W.keepIn K (.ref f10) = true)
    (a11 : PySem.W.findIn K (.ref C0) "set_outputs" = some (some (.ref f11)))
    (i11 : PySem.W.isFn K (.ref f11) = true)
    (l11 : K.lookup f11 = some ⟨oc11, od11, .func (PySem.W.fnOf "set_outputs" "Graph.set_outputs" (defArgs s_Graph_set_outputs) (defBody s_Graph_set_outputs) (defScope s_Graph_set_outputs) .none kV11 dc11 pm11 an11 cd11 ct11), sl11⟩)
    (c11 : PySem.W.codeIn K cd11 "Graph.set_outputs" = true)
    (k11 : PySem.W.keepIn K (.ref f11) = true)
    (a12 : PySem.W.nsIn K mainGlobals "initial_state" = some (some (.ref f12)))
    (l12 : K.lookup f12 = some ⟨oc12, od12, .func (PySem.W.fnOf "initial_state" "initial_state" (defArgs s_initial_state) (defBody s_initial_state) (defScope s_initial_state) .none kV12 dc12 pm12 an12 cd12 ct12), sl12⟩)
    (c12 : PySem.W.codeIn K cd12 "initial_state" = true)
    (k12 : PySem.W.keepIn K (.ref f12) = true)
    (a13 : PySem.W.nsIn K mainGlobals "is_integer" = some (some (.ref f13)))
    (l13 : K.lookup f13 = some ⟨oc13, od13, .func (PySem.W.fnOf "is_integer" "is_integer" (defArgs s_is_integer) (defBody s_is_integer) (defScope s_is_integer) .none kV13 dc13 pm13 an13 cd13 ct13), sl13⟩)
    (c13 : PySem.W.codeIn K cd13 "is_integer" = true)
    (k13 : PySem.W.keepIn K (.ref f13) = true)
    (a14 : PySem.W.nsIn K mainGlobals "is_row" = some (some (.ref f14)))
    (l14 : K.lookup f14 = some ⟨oc14, od14, .func (PySem.W.fnOf "is_row" "is_row" (defArgs s_is_row) (defBody s_is_row) (defScope s_is_row) .none kV14 dc14 pm14 an14 cd14 ct14), sl14⟩)
    (c14 : PySem.W.codeIn K cd14 "is_row" = true)
    (k14 : PySem.W.keepIn K (.ref f14) = true)
    (a15 : PySem.W.nsIn K mainGlobals "are_integers" = some (some (.ref f15)))
    (l15 : K.lookup f15 = some ⟨oc15, od15, .func (PySem.W.fnOf "are_integers" "are_integers" (defArgs s_are_integers) (defBody s_are_integers) (defScope s_are_integers) .none kV15 dc15 pm15 an15 cd15 ct15), sl15⟩)
    (c15 : PySem.W.codeIn K cd15 "are_integers" = true)
    (k15 : PySem.W.keepIn K (.ref f15) = true)
    (a16 : PySem.W.nsIn K mainGlobals "is_pair_right" = some (some (.ref f16)))
    (l16 : K.lookup f16 = some ⟨oc16, od16, .func (PySem.W.fnOf "is_pair_right" "is_pair_right" (defArgs s_is_pair_right) (defBody s_is_pair_right) (defScope s_is_pair_right) .none kV16 dc16 pm16 an16 cd16 ct16), sl16⟩)
    (c16 : PySem.W.codeIn K cd16 "is_pair_right" = true)
    (k16 : PySem.W.keepIn K (.ref f16) = true)
    (a17 : PySem.W.nsIn K mainGlobals "are_classes" = some (some (.ref f17)))
    (l17 : K.lookup f17 = some ⟨oc17, od17, .func (PySem.W.fnOf "are_classes" "are_classes" (defArgs s_are_classes) (defBody s_are_classes) (defScope s_are_classes) .none kV17 dc17 pm17 an17 cd17 ct17), sl17⟩)
    (c17 : PySem.W.codeIn K cd17 "are_classes" = true)
    (k17 : PySem.W.keepIn K (.ref f17) = true)
    (a18 : PySem.W.nsIn K mainGlobals "_law_state" = some (some (.ref f18)))
    (l18 : K.lookup f18 = some ⟨oc18, od18, .func (PySem.W.fnOf "_law_state" "_law_state" (defArgs s_law_state) (defBody s_law_state) (defScope s_law_state) .none kV18 dc18 pm18 an18 cd18 ct18), sl18⟩)
    (c18 : PySem.W.codeIn K cd18 "_law_state" = true)
    (k18 : PySem.W.keepIn K (.ref f18) = true)
    (a19 : PySem.W.nsIn K mainGlobals "_law_take" = some (some (.ref f19)))
    (l19 : K.lookup f19 = some ⟨oc19, od19, .func (PySem.W.fnOf "_law_take" "_law_take" (defArgs s_law_take) (defBody s_law_take) (defScope s_law_take) .none kV19 dc19 pm19 an19 cd19 ct19), sl19⟩)
    (c19 : PySem.W.codeIn K cd19 "_law_take" = true)
    (k19 : PySem.W.keepIn K (.ref f19) = true)
    (a20 : PySem.W.nsIn K mainGlobals "_law_bits" = some (some (.ref f20)))
    (l20 : K.lookup f20 = some ⟨oc20, od20, .func (PySem.W.fnOf "_law_bits" "_law_bits" (defArgs s_law_bits) (defBody s_law_bits) (defScope s_law_bits) .none kV20 dc20 pm20 an20 cd20 ct20), sl20⟩)
    (c20 : PySem.W.codeIn K cd20 "_law_bits" = true)
    (k20 : PySem.W.keepIn K (.ref f20) = true)
    (a21 : PySem.W.nsIn K mainGlobals "_law_operate" = some (some (.ref f21)))
    (l21 : K.lookup f21 = some ⟨oc21, od21, .func (PySem.W.fnOf "_law_operate" "_law_operate" (defArgs s_law_operate) (defBody s_law_operate) (defScope s_law_operate) .none kV21 dc21 pm21 an21 cd21 ct21), sl21⟩)
    (c21 : PySem.W.codeIn K cd21 "_law_operate" = true)
    (k21 : PySem.W.keepIn K (.ref f21) = true)
    (a22 : PySem.W.nsIn K mainGlobals "_law_grow" = some (some (.ref f22)))
    (l22 : K.lookup f22 = some ⟨oc22, od22, .func (PySem.W.fnOf "_law_grow" "_law_grow" (defArgs s_law_grow) (defBody s_law_grow) (defScope s_law_grow) .none kV22 dc22 pm22 an22 cd22 ct22), sl22⟩)
    (c22 : PySem.W.codeIn K cd22 "_law_grow" = true)
    (k22 : PySem.W.keepIn K (.ref f22) = true)
    (a23 : PySem.W.nsIn K mainGlobals "_law_machine" = some (some (.ref f23)))
    (l23 : K.lookup f23 = some ⟨oc23, od23, .func (PySem.W.fnOf "_law_machine" "_law_machine" (defArgs s_law_machine) (defBody s_law_machine) (defScope s_law_machine) .none kV23 dc23 pm23 an23 cd23 ct23), sl23⟩)
    (c23 : PySem.W.codeIn K cd23 "_law_machine" = true)
    (k23 : PySem.W.keepIn K (.ref f23) = true)
    (a24 : PySem.W.nsIn K mainGlobals "_law_copy" = some (some (.ref f24)))
    (l24 : K.lookup f24 = some ⟨oc24, od24, .func (PySem.W.fnOf "_law_copy" "_law_copy" (defArgs s_law_copy) (defBody s_law_copy) (defScope s_law_copy) .none kV24 dc24 pm24 an24 cd24 ct24), sl24⟩)
    (c24 : PySem.W.codeIn K cd24 "_law_copy" = true)
    (k24 : PySem.W.keepIn K (.ref f24) = true)
    (a25 : PySem.W.nsIn K mainGlobals "_law_spoil" = some (some (.ref f25)))
    (l25 : K.lookup f25 = some ⟨oc25, od25, .func (PySem.W.fnOf "_law_spoil" "_law_spoil" (defArgs s_law_spoil) (defBody s_law_spoil) (defScope s_law_spoil) .none kV25 dc25 pm25 an25 cd25 ct25), sl25⟩)
    (c25 : PySem.W.codeIn K cd25 "_law_spoil" = true)
    (k25 : PySem.W.keepIn K (.ref f25) = true)
    (a26 : PySem.W.nsIn K mainGlobals "_law_pair" = some (some (.ref f26)))
    (l26 : K.lookup f26 = some ⟨oc26, od26, .func (PySem.W.fnOf "_law_pair" "_law_pair" (defArgs s_law_pair) (defBody s_law_pair) (defScope s_law_pair) .none kV26 dc26 pm26 an26 cd26 ct26), sl26⟩)
    (c26 : PySem.W.codeIn K cd26 "_law_pair" = true)
    (k26 : PySem.W.keepIn K (.ref f26) = true)
    (a27 : PySem.W.nsIn K mainGlobals "_law_classes" = some (some (.ref f27)))
    (l27 : K.lookup f27 = some ⟨oc27, od27, .func (PySem.W.fnOf "_law_classes" "_law_classes" (defArgs s_law_classes) (defBody s_law_classes) (defScope s_law_classes) .none kV27 dc27 pm27 an27 cd27 ct27), sl27⟩)
    (c27 : PySem.W.codeIn K cd27 "_law_classes" = true)
    (k27 : PySem.W.keepIn K (.ref f27) = true)
    (a28 : PySem.W.nsIn K mainGlobals "_law_paired" = some (some (.ref f28)))
    (l28 : K.lookup f28 = some ⟨oc28, od28, .func (PySem.W.fnOf "_law_paired" "_law_paired" (defArgs s_law_paired) (defBody s_law_paired) (defScope s_law_paired) .none kV28 dc28 pm28 an28 cd28 ct28), sl28⟩)
    (c28 : PySem.W.codeIn K cd28 "_law_paired" = true)
    (k28 : PySem.W.keepIn K (.ref f28) = true)
    (a29 : PySem.W.nsIn K mainGlobals "_law_pair_right" = some (some (.ref f29)))
    (l29 : K.lookup f29 = some ⟨oc29, od29, .func (PySem.W.fnOf "_law_pair_right" "_law_pair_right" (defArgs s_law_pair_right) (defBody s_law_pair_right) (defScope s_law_pair_right) .none kV29 dc29 pm29 an29 cd29 ct29), sl29⟩)
    (c29 : PySem.W.codeIn K cd29 "_law_pair_right" = true)
    (k29 : PySem.W.keepIn K (.ref f29) = true)
    (a30 : PySem.W.nsIn K mainGlobals "_law_right" = some (some (.ref f30)))
    (l30 : K.lookup f30 = some ⟨oc30, od30, .func (PySem.W.fnOf "_law_right" "_law_right" (defArgs s_law_right) (defBody s_law_right) (defScope s_law_right) .none kV30 dc30 pm30 an30 cd30 ct30), sl30⟩)
    (c30 : PySem.W.codeIn K cd30 "_law_right" = true)
    (k30 : PySem.W.keepIn K (.ref f30) = true)
    (a31 : PySem.W.nsIn K mainGlobals "_law_strange" = some (some (.ref f31)))
    (l31 : K.lookup f31 = some ⟨oc31, od31, .func (PySem.W.fnOf "_law_strange" "_law_strange" (defArgs s_law_strange) (defBody s_law_strange) (defScope s_law_strange) .none kV31 dc31 pm31 an31 cd31 ct31), sl31⟩)
    (c31 : PySem.W.codeIn K cd31 "_law_strange" = true)
    (k31 : PySem.W.keepIn K (.ref f31) = true)
    (a32 : PySem.W.nsIn K mainGlobals "_law_bent" = some (some (.ref f32)))
    (l32 : K.lookup f32 = some ⟨oc32, od32, .func (PySem.W.fnOf "_law_bent" "_law_bent" (defArgs s_law_bent) (defBody s_law_bent) (defScope s_law_bent) .none kV32 dc32 pm32 an32 cd32 ct32), sl32⟩)
    (c32 : PySem.W.codeIn K cd32 "_law_bent" = true)
    (k32 : PySem.W.keepIn K (.ref f32) = true)
    (a33 : PySem.W.nsIn K mainGlobals "law" = some (some (.ref f33)))
    (l33 : K.lookup f33 = some ⟨oc33, od33, .func (PySem.W.fnOf "law" "law" (defArgs s_law) (defBody s_law) (defScope s_law) .none kV33 dc33 pm33 an33 cd33 ct33), sl33⟩)
    (c33 : PySem.W.codeIn K cd33 "law" = true)
    (k33 : PySem.W.keepIn K (.ref f33) = true)
    (aC0 : PySem.W.nsIn K mainGlobals "Graph" = some (some (.ref C0)))
    (pg0 : PySem.W.plainGet K C0 Str.empty = true)
    (hd0 : PySem.W.hasDictIn K C0 = true)
    (po0 : PySem.W.plainOver K C0 = true)
    (sa0 : PySem.W.findIn K (.ref C0) "__setattr__" = some (some (.builtin "object.__setattr__")))
    (mk0 : PySem.W.makesIn K C0 = true)
    (kc0 : PySem.W.keepIn K (.ref C0) = true)
    (n0 : PySem.W.findIn K (.ref C0) "inputs" = some none)
    (n1 : PySem.W.findIn K (.ref C0) "registers" = some none)
    (n2 : PySem.W.findIn K (.ref C0) "ands" = some none)
    (n3 : PySem.W.findIn K (.ref C0) "outputs" = some none)
    (n4 : PySem.W.findIn K (.ref C0) "known" = some none)
    (z0 : PySem.W.nsIn K mainGlobals "len" = some none)
    (z1 : PySem.W.nsIn K mainGlobals "int" = some none)
    (z2 : PySem.W.nsIn K mainGlobals "str" = some none)
    (z3 : PySem.W.nsIn K mainGlobals "abs" = some none)
    (z4 : PySem.W.nsIn K mainGlobals "max" = some none)
    (z5 : PySem.W.nsIn K mainGlobals "min" = some none)
    (z6 : PySem.W.nsIn K mainGlobals "sum" = some none)
    (z7 : PySem.W.nsIn K mainGlobals "list" = some none)
    (z8 : PySem.W.nsIn K mainGlobals "tuple" = some none)
    (z9 : PySem.W.nsIn K mainGlobals "sorted" = some none)
    (z10 : PySem.W.nsIn K mainGlobals "all" = some none)
    (z11 : PySem.W.nsIn K mainGlobals "any" = some none)
    (z12 : PySem.W.nsIn K mainGlobals "isinstance" = some none)
    (z13 : PySem.W.nsIn K mainGlobals "repr" = some none)
    (z14 : PySem.W.nsIn K mainGlobals "bool" = some none)
    (z15 : PySem.W.nsIn K mainGlobals "dict" = some none)
    (z16 : PySem.W.nsIn K mainGlobals "range" = some none)
    (z17 : PySem.W.nsIn K mainGlobals "enumerate" = some none)
    (z18 : PySem.W.nsIn K mainGlobals "zip" = some none)
    (z19 : PySem.W.nsIn K mainGlobals "reversed" = some none)
    (z20 : PySem.W.nsIn K mainGlobals "super" = some none)
    (z21 : PySem.W.nsIn K mainGlobals "ValueError" = some none)
    (gq0 : PySem.W.nsIn K mainGlobals "MAX_NODES" = some (some (.int 4000 gt0)))
    (th : PySem.W.nsIn K cStatics "thirdparty.any" = some none)
    (xhn : PySem.W.specialIn K (.builtin "object.__class__") "__get__" = some (some (.builtin "getset_descriptor.__get__")))
    (xht : PySem.W.takesIn K (.builtin "object.__class__") = some true)
    (xtop : (l.prog.main.scope.names.lookup ("super" : Str)).isSome = false)
    (xaR : PySem.W.nsIn K mainGlobals "Refused" = some (some (.ref R)))
    (xLR : K.lookup R = some (excClassObj nmR qqR R NR bsR [.type "ValueError", .type "Exception", .type "BaseException", .type "object"] true snR subR abR colR xdR xm0_R xm1_R xm2_R xm3_R xm5_R "ValueError.__new__"))
    (xfR : PySem.W.findIn K (.ref R) "__init__" = some (some (.builtin "ValueError.__init__")))
    (xeC2 : PySem.W.subIn K (.ref X2) (.type "BaseException") = some true)
    (xtC2 : PySem.W.typeIn K (.ref X2) = some (.type "type"))
    (xhC2 : PySem.W.hasDictIn K X2 = true)
    (xic2 : PySem.W.isClsIn K X2 = true)
    (xa2 : PySem.W.nsIn K mainGlobals "Unbounded" = some (some (.ref X2)))
    (xL2 : K.lookup X2 = some (excClassObj nm2 qq2 X2 N2 bs2 [.ref R, .type "ValueError", .type "Exception", .type "BaseException", .type "object"] true sn2 sub2 ab2 col2 xd2 xm0_2 xm1_2 xm2_2 xm3_2 xm5_2 "ValueError.__new__"))
    (xsa2 : PySem.W.findIn K (.ref X2) "__setattr__" = some (some (.builtin "object.__setattr__")))
    (xga2 : PySem.W.findIn K (.ref X2) "__getattribute__" = some (some (.builtin "BaseException.__getattribute__")))
    (xgg2 : PySem.W.findIn K (.ref X2) "__getattr__" = some none)
    (xnb2 : PySem.W.findIn K (.ref X2) "name" = some none)
    (xkC2 : PySem.W.keepIn K (.ref X2) = true)
    (xi2 : PySem.W.findIn K (.ref X2) "__init__" = some (some (.ref I2)))
    (xt2 : PySem.W.typeIn K (.ref I2) = some (.type "function"))
    (xl_2 : K.lookup I2 = some ⟨xoc2, xod2, .func (PySem.W.ksFn "__init__" qu2 (defArgs s_x2) (defBody s_x2) (defScope s_x2) .none xkV2 xdc2 xpm2 xan2 (.ref cda2) xct2 cc2), xos2⟩)
    (xc2 : PySem.W.codeIn K (.ref cda2) qu2 = true)
    (xlc2 : K.lookup cda2 = some ⟨xcl2, xcd2, .fields xvs2, xcs2⟩)
    (xhv2 : xvs2[2]? = some (.str file2 xtf2))
    (xlx2 : K.lookup cc2 = some ⟨xl2, xld2, .cell (some (.ref X2)), xsl2⟩)
    (xmr2 : PySem.W.mroIn K X2 (.ref X2) = some true)
    (xve2 : PySem.W.subIn K (.ref X2) (.type "ValueError") = some true)
    (xha2 : PySem.W.findIn K (.ref X2) "__class__" = some (some (.builtin "object.__class__")))
    (xhm2 : PySem.W.mroIn K X2 (.type "object") = some true)
    (xhf2 : ((l.prog.main.file : Str) == file2) = true)
    (xsb2_2 : PySem.W.subIn K (.ref X2) (.ref X2) = some true)
    : ∃ (fd : FuncData) (sp : Sp), (∀ (s : Shared) (u : Value), K.In s.heap → BindsTo s fd ⟨[u], []⟩ [("_law_script", u)]) ∧
      (∀ base : Heap, SysM base → FnG l.prog w K mg base (2 * LEVEL) fa fd ["_law_script"] sp) ∧
      ∀ (H : Hp) (a : Addr) (ns : List Int), ns.length ≤ 63 → SqL K H a (ns.map V.int) → sp [.ref a] H (fun v _ => v = .bl true) fun _ _ _ => False := by
  have e : f33 = fa := by
    have e := (PySem.W.mg_of X G a33).symm.trans hfa
    injection e with e; injection e
  subst e
  have B : DI.Base l.prog mg (evOf K [C0, 0, X2] [.int 4000]) (fun i => ([f0, f1, f2, f3, f4, f5, f6, f7, f8, f9, f10, f11, f12, f13, f14, f15, f16, f17, f18, f19, f20, f21, f22, f23, f24, f25, f26, f27, f28, f29, f30, f31, f32, f33] : List Addr).getD i 0) ck := by
    refine ⟨?_, ?_, ?_, ?_, ?_, ?_, ?_, ?_, rfl, rfl⟩
    · exact allL (l := ck.calls) ⟨⟨PySem.W.mg_of X G a0, k0⟩, ⟨PySem.W.mg_of X G a1, k1⟩, ⟨PySem.W.mg_of X G a14, k14⟩, ⟨PySem.W.mg_of X G a13, k13⟩, ⟨PySem.W.mg_of X G a12, k12⟩, ⟨PySem.W.mg_of X G a15, k15⟩, ⟨PySem.W.mg_of X G a16, k16⟩, ⟨PySem.W.mg_of X G a19, k19⟩, ⟨PySem.W.mg_of X G a21, k21⟩, ⟨PySem.W.mg_of X G a20, k20⟩, ⟨PySem.W.mg_of X G a22, k22⟩, ⟨PySem.W.mg_of X G a23, k23⟩, ⟨PySem.W.mg_of X G a24, k24⟩, ⟨PySem.W.mg_of X G a25, k25⟩, ⟨PySem.W.mg_of X G a29, k29⟩, ⟨PySem.W.mg_of X G a31, k31⟩, ⟨PySem.W.mg_of X G a18, k18⟩, ⟨PySem.W.mg_of X G a26, k26⟩, ⟨PySem.W.mg_of X G a28, k28⟩, ⟨PySem.W.mg_of X G a27, k27⟩, ⟨PySem.W.mg_of X G a32, k32⟩, ⟨PySem.W.mg_of X G a17, k17⟩, ⟨PySem.W.mg_of X G a30, k30⟩, ⟨PySem.W.mg_of X G a33, k33⟩, trivial⟩
    · exact allL (l := ck.mths) ⟨⟨⟨pg0, hd0, po0, sa0⟩, ⟨a5, i5, k5⟩⟩, ⟨⟨pg0, hd0, po0, sa0⟩, ⟨a6, i6, k6⟩⟩, ⟨⟨pg0, hd0, po0, sa0⟩, ⟨a7, i7, k7⟩⟩, ⟨⟨pg0, hd0, po0, sa0⟩, ⟨a8, i8, k8⟩⟩, ⟨⟨pg0, hd0, po0, sa0⟩, ⟨a9, i9, k9⟩⟩, ⟨⟨pg0, hd0, po0, sa0⟩, ⟨a10, i10, k10⟩⟩, ⟨⟨pg0, hd0, po0, sa0⟩, ⟨a11, i11, k11⟩⟩, ⟨⟨pg0, hd0, po0, sa0⟩, ⟨a4, i4, k4⟩⟩, trivial⟩
    · exact allL (l := ck.mks) ⟨⟨PySem.W.mg_of X G aC0, ⟨mk0, a2, i2, kc0⟩⟩, trivial⟩
    · exact allL (l := ck.flds) ⟨⟨⟨pg0, hd0, po0, sa0⟩, n0⟩, ⟨⟨pg0, hd0, po0, sa0⟩, n1⟩, ⟨⟨pg0, hd0, po0, sa0⟩, n2⟩, ⟨⟨pg0, hd0, po0, sa0⟩, n3⟩, ⟨⟨pg0, hd0, po0, sa0⟩, n4⟩, trivial⟩
    · exact allL (l := ck.gls) ⟨⟨_, PySem.W.mg_of X G gq0, ⟨_, rfl⟩⟩, trivial⟩
    · exact allL (l := btNames) ⟨PySem.W.mg_none_of X G z0, PySem.W.mg_none_of X G z1, PySem.W.mg_none_of X G z2, PySem.W.mg_none_of X G z3, PySem.W.mg_none_of X G z4, PySem.W.mg_none_of X G z5, PySem.W.mg_none_of X G z6, PySem.W.mg_none_of X G z7, PySem.W.mg_none_of X G z8, PySem.W.mg_none_of X G z9, PySem.W.mg_none_of X G z10, PySem.W.mg_none_of X G z11, PySem.W.mg_none_of X G z12, PySem.W.mg_none_of X G z13, PySem.W.mg_none_of X G z14, PySem.W.mg_none_of X G z15, PySem.W.mg_none_of X G z16, PySem.W.mg_none_of X G z17, PySem.W.mg_none_of X G z18, PySem.W.mg_none_of X G z19, PySem.W.mg_none_of X G z20, PySem.W.mg_none_of X G z21, trivial⟩
    · exact allL (l := ck.exs) ⟨⟨PySem.W.mg_of X G xa2, exCls_mk (st := s_x2) xL2 xsa2 xga2 xgg2 xnb2 xeC2 xtC2 xkC2 xhC2 xi2 xt2 xl_2 xc2 xlc2 xhv2 xlx2 z20 (superIn_of xL2 xLR xfR) xmr2 xve2 th xha2 xhn xht xhm2 xhf2 xtop rfl (by decide +kernel) (fun _ _ _ _ _ _ _ _ _ => rfl)⟩, trivial⟩
    · exact allL (l := ck.bases) trivial
  have hx : XT (evOf K [C0, 0, X2] [.int 4000]) exL exB exsub := by
    refine ⟨rfl, ?_, ?_, ?_⟩
    · exact allL (l := exL) ⟨allL (l := exL.map (·.1) ++ exB) ⟨exm_of xeC2 xhC2 xtC2 xsb2_2, trivial⟩, trivial⟩
    · exact allL (l := exL) ⟨allL (l := exL.map (·.1) ++ exB) ⟨kit_of xic2 xtC2 xsb2_2 xsb2_2, trivial⟩, trivial⟩
    · exact allL (l := exL) ⟨kit_VE xve2, trivial⟩
  have A : DfAll l.prog w mg K ck Dl [f0, f1, f2, f3, f4, f5, f6, f7, f8, f9, f10, f11, f12, f13, f14, f15, f16, f17, f18, f19, f20, f21, f22, f23, f24, f25, f26, f27, f28, f29, f30, f31, f32, f33] :=
    .cons (dfOk_mk (st := s_wall) l0 c0 sc_wall ck_wall fun _ _ _ _ _ _ us ws hl hw => match us, ws, hl, hw with | [_], [], _, _ => rfl) <|
    .cons (dfOk_mk (st := s_negated) l1 c1 sc_negated ck_negated fun _ _ _ _ _ _ us ws hl hw => match us, ws, hl, hw with | [_], [], _, _ => rfl) <|
    .cons (dfOk_mk (st := s_Graph_init) l2 c2 sc_Graph_init ck_Graph_init fun _ _ _ _ _ _ us ws hl hw => match us, ws, hl, hw with | [_, _, _], [], _, _ => rfl) <|
    .cons (dfOk_mk (st := s_Graph_input_literal) l3 c3 sc_Graph_input_literal ck_Graph_input_literal fun _ _ _ _ _ _ us ws hl hw => match us, ws, hl, hw with | [_, _], [], _, _ => rfl) <|
    .cons (dfOk_mk (st := s_Graph_register_literal) l4 c4 sc_Graph_register_literal ck_Graph_register_literal fun _ _ _ _ _ _ us ws hl hw => match us, ws, hl, hw with | [_, _], [], _, _ => rfl) <|
    .cons (dfOk_mk (st := s_Graph_node_count) l5 c5 sc_Graph_node_count ck_Graph_node_count fun _ _ _ _ _ _ us ws hl hw => match us, ws, hl, hw with | [_], [], _, _ => rfl) <|
    .cons (dfOk_mk (st := s_Graph_conjunction) l6 c6 sc_Graph_conjunction ck_Graph_conjunction fun _ _ _ _ _ _ us ws hl hw => match us, ws, hl, hw with | [_, _, _], [], _, _ => rfl) <|
    .cons (dfOk_mk (st := s_Graph_disjunction) l7 c7 sc_Graph_disjunction ck_Graph_disjunction fun _ _ _ _ _ _ us ws hl hw => match us, ws, hl, hw with | [_, _, _], [], _, _ => rfl) <|
    .cons (dfOk_mk (st := s_Graph_exclusive) l8 c8 sc_Graph_exclusive ck_Graph_exclusive fun _ _ _ _ _ _ us ws hl hw => match us, ws, hl, hw with | [_, _, _], [], _, _ => rfl) <|
    .cons (dfOk_mk (st := s_Graph_choice) l9 c9 sc_Graph_choice ck_Graph_choice fun _ _ _ _ _ _ us ws hl hw => match us, ws, hl, hw with | [_, _, _, _], [], _, _ => rfl) <|
    .cons (dfOk_mk (st := s_Graph_set_next) l10 c10 sc_Graph_set_next ck_Graph_set_next fun _ _ _ _ _ _ us ws hl hw => match us, ws, hl, hw with | [_, _, _], [], _, _ => rfl) <|
    .cons (dfOk_mk (st := s_Graph_set_outputs) l11 c11 sc_Graph_set_outputs ck_Graph_set_outputs fun _ _ _ _ _ _ us ws hl hw => match us, ws, hl, hw with | [_, _], [], _, _ => rfl) <|
    .cons (dfOk_mk (st := s_initial_state) l12 c12 sc_initial_state ck_initial_state fun _ _ _ _ _ _ us ws hl hw => match us, ws, hl, hw with | [_], [], _, _ => rfl) <|
    .cons (dfOk_mk (st := s_is_integer) l13 c13 sc_is_integer ck_is_integer fun _ _ _ _ _ _ us ws hl hw => match us, ws, hl, hw with | [_], [], _, _ => rfl) <|
    .cons (dfOk_mk (st := s_is_row) l14 c14 sc_is_row ck_is_row fun _ _ _ _ _ _ us ws hl hw => match us, ws, hl, hw with | [_], [], _, _ => rfl) <|
    .cons (dfOk_mk (st := s_are_integers) l15 c15 sc_are_integers ck_are_integers fun _ _ _ _ _ _ us ws hl hw => match us, ws, hl, hw with | [_], [], _, _ => rfl) <|
    .cons (dfOk_mk (st := s_is_pair_right) l16 c16 sc_is_pair_right ck_is_pair_right fun _ _ _ _ _ _ us ws hl hw => match us, ws, hl, hw with | [_, _, _], [], _, _ => rfl) <|
    .cons (dfOk_mk (st := s_are_classes) l17 c17 sc_are_classes ck_are_classes fun _ _ _ _ _ _ us ws hl hw => match us, ws, hl, hw with | [_, _, _], [], _, _ => rfl) <|
    .cons (dfOk_mk (st := s_law_state) l18 c18 sc_law_state ck_law_state fun _ _ _ _ _ _ us ws hl hw => match us, ws, hl, hw with | [_], [], _, _ => rfl) <|
    .cons (dfOk_mk (st := s_law_take) l19 c19 sc_law_take ck_law_take fun _ _ _ _ _ _ us ws hl hw => match us, ws, hl, hw with | [_, _], [], _, _ => rfl) <|
    .cons (dfOk_mk (st := s_law_bits) l20 c20 sc_law_bits ck_law_bits fun _ _ _ _ _ _ us ws hl hw => match us, ws, hl, hw with | [_, _], [], _, _ => rfl) <|
    .cons (dfOk_mk (st := s_law_operate) l21 c21 sc_law_operate ck_law_operate fun _ _ _ _ _ _ us ws hl hw => match us, ws, hl, hw with | [_, _, _, _, _], [], _, _ => rfl) <|
    .cons (dfOk_mk (st := s_law_grow) l22 c22 sc_law_grow ck_law_grow fun _ _ _ _ _ _ us ws hl hw => match us, ws, hl, hw with | [_, _, _, _], [], _, _ => rfl) <|
    .cons (dfOk_mk (st := s_law_machine) l23 c23 sc_law_machine ck_law_machine fun _ _ _ _ _ _ us ws hl hw => match us, ws, hl, hw with | [_, _, _, _], [], _, _ => rfl) <|
    .cons (dfOk_mk (st := s_law_copy) l24 c24 sc_law_copy ck_law_copy fun _ _ _ _ _ _ us ws hl hw => match us, ws, hl, hw with | [_, _], [], _, _ => rfl) <|
    .cons (dfOk_mk (st := s_law_spoil) l25 c25 sc_law_spoil ck_law_spoil fun _ _ _ _ _ _ us ws hl hw => match us, ws, hl, hw with | [_, _], [], _, _ => rfl) <|
    .cons (dfOk_mk (st := s_law_pair) l26 c26 sc_law_pair ck_law_pair fun _ _ _ _ _ _ us ws hl hw => match us, ws, hl, hw with | [_, _, _, _], [], _, _ => rfl) <|
    .cons (dfOk_mk (st := s_law_classes) l27 c27 sc_law_classes ck_law_classes fun _ _ _ _ _ _ us ws hl hw => match us, ws, hl, hw with | [_, _, _], [], _, _ => rfl) <|
    .cons (dfOk_mk (st := s_law_paired) l28 c28 sc_law_paired ck_law_paired fun _ _ _ _ _ _ us ws hl hw => match us, ws, hl, hw with | [_, _], [], _, _ => rfl) <|
    .cons (dfOk_mk (st := s_law_pair_right) l29 c29 sc_law_pair_right ck_law_pair_right fun _ _ _ _ _ _ us ws hl hw => match us, ws, hl, hw with | [_, _, _], [], _, _ => rfl) <|
    .cons (dfOk_mk (st := s_law_right) l30 c30 sc_law_right ck_law_right fun _ _ _ _ _ _ us ws hl hw => match us, ws, hl, hw with | [_, _], [], _, _ => rfl) <|
    .cons (dfOk_mk (st := s_law_strange) l31 c31 sc_law_strange ck_law_strange fun _ _ _ _ _ _ us ws hl hw => match us, ws, hl, hw with | [_], [], _, _ => rfl) <|
    .cons (dfOk_mk (st := s_law_bent) l32 c32 sc_law_bent ck_law_bent fun _ _ _ _ _ _ us ws hl hw => match us, ws, hl, hw with | [_, _], [], _, _ => rfl) <|
    .cons (dfOk_mk (st := s_law) l33 c33 sc_law ck_law fun _ _ _ _ _ _ us ws hl hw => match us, ws, hl, hw with | [_], [], _, _ => rfl) <|
    .nil
  obtain ⟨fd, h1, h2⟩ := law_end (d0 := ⟨[], [], .nil, []⟩) (x := "_law_script") i_law LEVEL B A (fun _ => rfl) rfl (by decide +kernel) (by decide +kernel) rfl
  exact ⟨fd, _, fun s u => h1 s u, h2, fun H a ns hl hS => law_ok _ hx rfl H a ns hl hS⟩
end LK
open PySem PySem.W PyProof.Rows
set_option maxRecDepth 100000 in
set_option maxHeartbeats 0 in
theorem PySem.Challenge.cw_clockwright_k57_classes_holds : PySem.Challenge.rw_clockwright_k57_classes.Holds := by
  w_on; o_law; k_head; (case hw => w_witness2)
  k_fill
  refine DI.walkG (l := PySem.Challenge.rw_clockwright_k57_classes) (x := "_law_script") LK.LEVEL rfl rfl rfl ⟨⟨rfl, by decide, by decide⟩, rfl⟩ (fun w h Y => PySem.W.kIn_of Y) ?F
  case F =>
    intro w mg fa h KX G hmg
    refine' LK.fin KX G hmg ?a0 ?l0 ?c0 ?k0 ?a1 ?l1 ?c1 ?k1 ?a2 ?i2 ?l2 ?c2 ?k2 ?a3 ?i3 ?l3 ?c3 ?k3 ?a4 ?i4 ?l4 ?c4 ?k4 ?a5 ?i5 ?l5 ?c5 ?k5 ?a6 ?i6 ?l6 ?c6 ?k6 ?a7 ?i7 ?l7 ?c7 ?k7 ?a8 ?i8 ?l8 ?c8 ?k8 ?a9 ?i9 ?l9 ?c9 ?k9 ?a10 ?i10 ?l10 ?c10 ?k10 ?a11 ?i11 ?l11 ?c11 ?k11 ?a12 ?l12 ?c12 ?k12 ?a13 ?l13 ?c13 ?k13 ?a14 ?l14 ?c14 ?k14 ?a15 ?l15 ?c15 ?k15 ?a16 ?l16 ?c16 ?k16 ?a17 ?l17 ?c17 ?k17 ?a18 ?l18 ?c18 ?k18 ?a19 ?l19 ?c19 ?k19 ?a20 ?l20 ?c20 ?k20 ?a21 ?l21 ?c21 ?k21 ?a22 ?l22 ?c22 ?k22 ?a23 ?l23 ?c23 ?k23 ?a24 ?l24 ?c24 ?k24 ?a25 ?l25 ?c25 ?k25 ?a26 ?l26 ?c26 ?k26 ?a27 ?l27 ?c27 ?k27 ?a28 ?l28 ?c28 ?k28 ?a29 ?l29 ?c29 ?k29 ?a30 ?l30 ?c30 ?k30 ?a31 ?l31 ?c31 ?k31 ?a32 ?l32 ?c32 ?k32 ?a33 ?l33 ?c33 ?k33 ?aC0 ?pg0 ?hd0 ?po0 ?sa0 ?mk0 ?kc0 ?n0 ?n1 ?n2 ?n3 ?n4 ?z0 ?z1 ?z2 ?z3 ?z4 ?z5 ?z6 ?z7 ?z8 ?z9 ?z10 ?z11 ?z12 ?z13 ?z14 ?z15 ?z16 ?z17 ?z18 ?z19 ?z20 ?z21 ?gq0 ?th ?xhn ?xht ?xtop ?xaR ?xLR ?xfR ?xeC2 ?xtC2 ?xhC2 ?xic2 ?xa2 ?xL2 ?xsa2 ?xga2 ?xgg2 ?xnb2 ?xkC2 ?xi2 ?xt2 ?xl_2 ?xc2 ?xlc2 ?xhv2 ?xlx2 ?xmr2 ?xve2 ?xha2 ?xhm2 ?xhf2 ?xsb2_2
    (case xaR => k_is); (case xa2 => k_is); (case xLR => k_is); (case xL2 => k_is); (case aC0 => k_is); (case a0 => k_is)
    (case l0 => k_is); (case c0 => k_is); (case k0 => k_is); (case a1 => k_is); (case l1 => k_is); (case c1 => k_is)
    (case k1 => k_is); (case a2 => k_is); (case i2 => k_is); (case l2 => k_is); (case c2 => k_is); (case k2 => k_is)
    (case a3 => k_is); (case i3 => k_is); (case l3 => k_is); (case c3 => k_is); (case k3 => k_is); (case a4 => k_is)
    (case i4 => k_is); (case l4 => k_is); (case c4 => k_is); (case k4 => k_is); (case a5 => k_is); (case i5 => k_is)
    (case l5 => k_is); (case c5 => k_is); (case k5 => k_is); (case a6 => k_is); (case i6 => k_is); (case l6 => k_is)
    (case c6 => k_is); (case k6 => k_is); (case a7 => k_is); (case i7 => k_is); (case l7 => k_is); (case c7 => k_is)
    (case k7 => k_is); (case a8 => k_is); (case i8 => k_is); (case l8 => k_is); (case c8 => k_is); (case k8 => k_is)
    (case a9 => k_is); (case i9 => k_is); (case l9 => k_is); (case c9 => k_is); (case k9 => k_is); (case a10 => k_is)
    (case i10 => k_is); (case l10 => k_is); (case c10 => k_is); (case k10 => k_is); (case a11 => k_is); (case i11 => k_is)
    (case l11 => k_is); (case c11 => k_is); (case k11 => k_is); (case a12 => k_is); (case l12 => k_is); (case c12 => k_is)
    (case k12 => k_is); (case a13 => k_is); (case l13 => k_is); (case c13 => k_is); (case k13 => k_is); (case a14 => k_is)
    (case l14 => k_is); (case c14 => k_is); (case k14 => k_is); (case a15 => k_is); (case l15 => k_is); (case c15 => k_is)
    (case k15 => k_is); (case a16 => k_is); (case l16 => k_is); (case c16 => k_is); (case k16 => k_is); (case a17 => k_is)
    (case l17 => k_is); (case c17 => k_is); (case k17 => k_is); (case a18 => k_is); (case l18 => k_is); (case c18 => k_is)
    (case k18 => k_is); (case a19 => k_is); (case l19 => k_is); (case c19 => k_is); (case k19 => k_is); (case a20 => k_is)
    (case l20 => k_is); (case c20 => k_is); (case k20 => k_is); (case a21 => k_is); (case l21 => k_is); (case c21 => k_is)
    (case k21 => k_is); (case a22 => k_is); (case l22 => k_is); (case c22 => k_is); (case k22 => k_is); (case a23 => k_is)
    (case l23 => k_is); (case c23 => k_is); (case k23 => k_is); (case a24 => k_is); (case l24 => k_is); (case c24 => k_is)
    (case k24 => k_is); (case a25 => k_is); (case l25 => k_is); (case c25 => k_is); (case k25 => k_is); (case a26 => k_is)
    (case l26 => k_is); (case c26 => k_is); (case k26 => k_is); (case a27 => k_is); (case l27 => k_is); (case c27 => k_is)
    (case k27 => k_is); (case a28 => k_is); (case l28 => k_is); (case c28 => k_is); (case k28 => k_is); (case a29 => k_is)
    (case l29 => k_is); (case c29 => k_is); (case k29 => k_is); (case a30 => k_is); (case l30 => k_is); (case c30 => k_is)
    (case k30 => k_is); (case a31 => k_is); (case l31 => k_is); (case c31 => k_is); (case k31 => k_is); (case a32 => k_is)
    (case l32 => k_is); (case c32 => k_is); (case k32 => k_is); (case a33 => k_is); (case l33 => k_is); (case c33 => k_is)
    (case k33 => k_is); (case pg0 => k_is); (case hd0 => k_is); (case po0 => k_is); (case sa0 => k_is); (case mk0 => k_is)
    (case kc0 => k_is); (case n0 => k_is); (case n1 => k_is); (case n2 => k_is); (case n3 => k_is); (case n4 => k_is)
    (case z0 => k_is); (case z1 => k_is); (case z2 => k_is); (case z3 => k_is); (case z4 => k_is); (case z5 => k_is)
    (case z6 => k_is); (case z7 => k_is); (case z8 => k_is); (case z9 => k_is); (case z10 => k_is); (case z11 => k_is)
    (case z12 => k_is); (case z13 => k_is); (case z14 => k_is); (case z15 => k_is); (case z16 => k_is); (case z17 => k_is)
    (case z18 => k_is); (case z19 => k_is); (case z20 => k_is); (case z21 => k_is); (case gq0 => k_is); (case th => k_is)
    (case xfR => k_is); (case xeC2 => k_is); (case xtC2 => k_is); (case xhC2 => k_is); (case xic2 => k_is); (case xsa2 => k_is)
    (case xga2 => k_is); (case xgg2 => k_is); (case xnb2 => k_is); (case xkC2 => k_is); (case xi2 => k_is); (case xt2 => k_is)
    (case xl_2 => k_is); (case xc2 => k_is); (case xlc2 => k_is); (case xlx2 => k_is); (case xmr2 => k_is); (case xve2 => k_is)
    (case xha2 => k_is); (case xhm2 => k_is); (case xsb2_2 => k_is)
    (case xhn => first | rfl | decide +kernel | k_is)
    (case xht => first | rfl | decide +kernel | k_is)
    (case xtop => first | rfl | decide +kernel | k_is)
    (case xhv2 => first | rfl | decide +kernel | k_is)
    (case xhf2 => first | rfl | decide +kernel | k_is)
