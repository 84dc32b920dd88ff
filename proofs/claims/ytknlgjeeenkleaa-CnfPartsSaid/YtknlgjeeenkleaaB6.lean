/- What the plain steps are reckoned by: the rules for 'simp only [go_sem]'. -/
import Derived.Test.YtknlgjeeenkleaaB5
namespace Go.Ab
attribute [go_sem] runL stepv callv evO putT app setx constV acells loadA loadC storeA splice pur purL purH purHL fieldA partA vcells elemA idxA lenA live liveE liveS binA intB unA convA extA buildA fillA buildS repA chunk appA xOwn yRows mkA cnvA bytesA_map slcA cutA bndA intAV lenZ intOfA boolOf resOne resAll resA
attribute [go_sem] List.getD_cons_zero List.getD_cons_succ List.set_cons_zero List.set_cons_succ List.map_cons List.map_nil List.cons_append List.nil_append List.append_nil List.getElem?_cons_zero List.getElem?_cons_succ List.length_cons List.length_nil List.drop_succ_cons List.drop_zero List.take_succ_cons List.take_zero List.all_cons List.all_nil
attribute [go_sem] Option.map_some Option.map_none Option.getD_some Option.getD_none Option.bind_some Option.bind_none
end Go.Ab
